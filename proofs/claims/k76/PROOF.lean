import PyProof.Rows.All
import Wide.All
import OpenK.AllK
import Wide.FinOn
import HandS.ForMost
import HandS.Exc
import HandS.ExcOwn
import HandS.ExcIs
import HandS.IsInst
import HandS.TupAny
import HandS.TupMul
import HandS.Style
import HandS.WordsExc
import HandS.Evl
import HandS.Walk
import KE.GoesEnum
import PySem.Challenge.RW_exactbeats_k76_whole_loads_and_cells_jud
set_option Elab.async false
set_option linter.all false
set_option maxRecDepth 100000
set_option maxHeartbeats 4000000
namespace Kx
open PySem PySem.Spec PyProof.Rows L2

/-! the text by places -/
def topS (i : Nat) : Stmt := PySem.Challenge.pw_exactbeats_k76_whole_loads_and_cells_jud.main.body.getD i (.Pass ⟨0, 0, 0, 0⟩)

/-! data in the abstract heap -/
theorem seqT_up {K : PySem.W.Frag} {H H' : Hp} {a : Addr} {xs : List V} (e : Same H H') (h : SqT K H a xs) : SqT K H' a xs := Evl.ex_t e h
mutual
theorem dp_up {K : PySem.W.Frag} {H H' : Hp} (e : Same H H') : ∀ (d : PyData) (v : V), Dp K H v d → Dp K H' v d
  | .none, _, h => by cases h; exact .non
  | .bool b, _, h => by cases h; exact .bl b
  | .int i, _, h => by cases h; exact .int i
  | .str x, _, h => by cases h; exact .str x
  | .list ds, _, h => by
    cases h with
    | lst hs ha => exact .lst (e.seq hs) (dpa_up e ds _ ha)
  | .tuple ds, _, h => by
    cases h with
    | tup hs ha => exact .tup (seqT_up e hs) (dpa_up e ds _ ha)
  | .dict _, _, h => by cases h
theorem dpa_up {K : PySem.W.Frag} {H H' : Hp} (e : Same H H') : ∀ (ds : List PyData) (vs : List V), DpAll K H vs ds → DpAll K H' vs ds
  | [], _, h => by cases h; exact .nil
  | d :: ds, _, h => by
    cases h with
    | cons h1 h2 => exact .cons (dp_up e d _ h1) (dpa_up e ds _ h2)
end
theorem dpa_len {K : PySem.W.Frag} {H : Hp} : ∀ {ds : List PyData} {vs : List V}, DpAll K H vs ds → vs.length = ds.length
  | [], _, h => by cases h; rfl
  | d :: ds, _, h => by
    cases h with
    | cons h1 h2 => rw [List.length_cons, List.length_cons, dpa_len h2]
theorem dpa_at {K : PySem.W.Frag} {H : Hp} : ∀ {ds : List PyData} {vs : List V} {i : Nat} {v : V}, DpAll K H vs ds → vs[i]? = some v → ∃ d, ds[i]? = some d ∧ Dp K H v d
  | [], _, i, v, h, g => by cases h; simp at g
  | d :: ds, _, 0, v, h, g => by
    cases h with
    | cons h1 h2 =>
      have e := Option.some.inj g
      subst e
      exact ⟨d, rfl, h1⟩
  | d :: ds, _, i + 1, v, h, g => by
    cases h with
    | cons h1 h2 => exact dpa_at (i := i) h2 g
theorem dpa_got {K : PySem.W.Frag} {H : Hp} : ∀ {ds : List PyData} {vs : List V} {i : Nat} {d : PyData}, DpAll K H vs ds → ds[i]? = some d → ∃ v, vs[i]? = some v ∧ Dp K H v d
  | [], _, i, d, h, g => by simp at g
  | d :: ds, _, 0, d', h, g => by
    cases h with
    | cons h1 h2 =>
      have e := Option.some.inj g
      subst e
      exact ⟨_, rfl, h1⟩
  | d :: ds, _, i + 1, d', h, g => by
    cases h with
    | cons h1 h2 => exact dpa_got (i := i) h2 g
theorem dpa_take {K : PySem.W.Frag} {H : Hp} : ∀ {ds : List PyData} {vs : List V} (n : Nat), DpAll K H vs ds → DpAll K H (vs.take n) (ds.take n)
  | _, _, 0, _ => .nil
  | [], _, n + 1, h => by cases h; exact .nil
  | d :: ds, _, n + 1, h => by
    cases h with
    | cons h1 h2 => exact .cons h1 (dpa_take n h2)
theorem dpa_drop {K : PySem.W.Frag} {H : Hp} : ∀ {ds : List PyData} {vs : List V} (n : Nat), DpAll K H vs ds → DpAll K H (vs.drop n) (ds.drop n)
  | _, _, 0, h => h
  | [], _, n + 1, h => by cases h; exact .nil
  | d :: ds, _, n + 1, h => by
    cases h with
    | cons h1 h2 => exact dpa_drop n h2
theorem dpa_app {K : PySem.W.Frag} {H : Hp} : ∀ {ds es : List PyData} {vs us : List V}, DpAll K H vs ds → DpAll K H us es → DpAll K H (vs ++ us) (ds ++ es)
  | [], es, _, us, h, k => by cases h; exact k
  | d :: ds, es, _, us, h, k => by
    cases h with
    | cons h1 h2 => exact .cons h1 (dpa_app h2 k)
theorem dpa_ints {K : PySem.W.Frag} {H : Hp} : ∀ (ns : List Int), DpAll K H (ns.map V.int) (ns.map PyData.int)
  | [] => .nil
  | n :: ns => .cons (.int n) (dpa_ints ns)

/-! kinds -/
def tyN : PyData → String
  | .none => "NoneType"
  | .bool _ => "bool"
  | .int _ => "int"
  | .str _ => "str"
  | .list _ => "list"
  | .tuple _ => "tuple"
  | .dict _ => "dict"
theorem dp_ty {K : PySem.W.Frag} {H : Hp} {d : PyData} {v : V} (h : Dp K H v d) : TyX K H v (.type (tyN d)) := by
  cases h with
  | non => exact .base .non
  | bl b => exact .base (.bl b)
  | int i => exact .base (.int i)
  | str x => exact .base (.str x)
  | lst hs _ =>
    rcases hs with (e | ⟨o, e⟩) | ⟨o, its, n, hk, hc, _⟩
    · exact .base (.lst e)
    · exact .base (.frz e)
    · exact .kList hk hc
  | tup hs _ =>
    rcases hs with (e | ⟨o, e⟩) | ⟨o, its, n, hk, hc, _⟩
    · exact .base (.tup e)
    · exact .fTuple e
    · exact .kTuple hk hc
def kInt : PyData → Bool
  | .int _ => true
  | .bool _ => true
  | _ => false
def kBool : PyData → Bool
  | .bool _ => true
  | _ => false
def kTup : PyData → Bool
  | .tuple _ => true
  | _ => false
theorem ki_int {K : PySem.W.Frag} (d : PyData) : PySem.W.kitOne K (.type (tyN d)) (.type "int") = some (kInt d) := by cases d <;> exact kit_ty (by dsimp only [tyN, kInt]; decide +kernel)
theorem ki_bool {K : PySem.W.Frag} (d : PyData) : PySem.W.kitOne K (.type (tyN d)) (.type "bool") = some (kBool d) := by cases d <;> exact kit_ty (by dsimp only [tyN, kBool]; decide +kernel)
theorem ki_tup {K : PySem.W.Frag} (d : PyData) : PySem.W.kitOne K (.type (tyN d)) (.type "tuple") = some (kTup d) := by cases d <;> exact kit_ty (by dsimp only [tyN, kTup]; decide +kernel)

/-! the mirror: what the judges tell of data -/
def isI : PyData → Bool
  | .int _ => true
  | _ => false
def wIn (lo hi : Int) : PyData → Bool
  | .int i => decide (lo ≤ i) && decide (i ≤ hi)
  | _ => false
def lotFrom (many : Int) : Int → List PyData → Bool
  | _, [] => true
  | last, d :: r => match d with
    | .int i => (decide (last + 1 ≤ i) && decide (i ≤ many - 1)) && lotFrom many i r
    | _ => false
def lot (many : Int) : PyData → Bool
  | .tuple ds => lotFrom many (-1) ds
  | _ => false
def words (most : Nat) : PyData → Bool
  | .tuple ds => (decide (1 ≤ ds.length) && decide (ds.length ≤ most)) && ds.all (wIn 0 255)
  | _ => false
def size : PyData → Nat
  | .tuple ds => ds.length
  | _ => 0
def packet : PyData → Bool
  | .tuple [s, k, o, w] => wIn 0 99 s && (wIn 0 7 k && (lot 12 o && ((decide (1 ≤ size o) && decide (size o ≤ 3)) && words 40 w)))
  | _ => false
def wordsOf : PyData → List PyData
  | .tuple [_, _, _, .tuple ws] => ws
  | _ => []
def cellsOf (d : PyData) : Nat := ((wordsOf d).length + 3) / 4
/-- the words, each weighed by its place, up to place i -/
def wl (ws : List Int) (i : Nat) : List Int := (List.range i).map fun j : Nat => ((j : Int) + 1) * ws.getD j 0
def wsum (ws : List Int) : Int := (wl ws ws.length).sum
theorem wl_succ (ws : List Int) (i : Nat) : wl ws (i + 1) = wl ws i ++ [((i : Int) + 1) * ws.getD i 0] := by
  unfold wl
  rw [List.range_succ, List.map_append]
  rfl
theorem wl_len (ws : List Int) (i : Nat) : (wl ws i).length = i := by
  unfold wl
  rw [List.length_map, List.length_range]
theorem wl_sum (ws : List Int) (i : Nat) : (wl ws (i + 1)).sum = (wl ws i).sum + ((i : Int) + 1) * ws.getD i 0 := by
  rw [wl_succ, List.sum_append_int]
  show _ + (((i : Int) + 1) * ws.getD i 0 + 0) = _
  omega
def intOf : PyData → Int
  | .int i => i
  | _ => 0
def intsOf : PyData → List Int
  | .tuple ds => ds.map intOf
  | _ => []
def check (p q l : Int) (ws : List Int) : Int := (wsum ws + 7 * q + 11 * l + 13 * p) % 251
def wordsIn : PyData → Bool
  | .tuple ds => ds.all (wIn 0 255)
  | _ => false
def load : PyData → Bool
  | .tuple [p, q, l, w, c] => wIn 0 1000000000 p && (wIn 0 9 q && (wIn 0 (9 - intOf q) l && (kTup w && (decide (1 ≤ size w) && (decide (size w ≤ 4) && ((decide (intOf l ≤ 0) || decide (4 ≤ size w)) && (wordsIn w && (wIn 0 250 c && decide (intOf c = check (intOf p) (intOf q) (intOf l) (intsOf w))))))))))
  | _ => false

/-! a heap without the deck at k: what the data stands on -/
def Bar (k : Addr) (H : Hp) : Hp := fun p => if p = k then none else H p
/-- all but the deck at k is as it was -/
def Sm (k : Addr) (H H' : Hp) : Prop := ∀ p o, p ≠ k → H p = some o → H' p = some o
theorem Bar_le {k : Addr} {H : Hp} : Same (Bar k H) H := fun p o e => by
  unfold Bar at e
  by_cases c : p = k
  · rw [if_pos c] at e; cases e
  · rw [if_neg c] at e; exact e
theorem Sm.bar {k : Addr} {H H' : Hp} (s : Sm k H H') : Same (Bar k H) (Bar k H') := fun p o e => by
  unfold Bar at e ⊢
  by_cases c : p = k
  · rw [if_pos c] at e; cases e
  · rw [if_neg c] at e ⊢; exact s p o c e
theorem Sm.of {k : Addr} {H H' : Hp} (s : Same H H') : Sm k H H' := fun p o _ e => s p o e
theorem Sm.refl {k : Addr} (H : Hp) : Sm k H H := fun _ _ _ e => e
theorem Sm.trans {k : Addr} {H H1 H2 : Hp} (a : Sm k H H1) (b : Sm k H1 H2) : Sm k H H2 := fun p o c e => b p o c (a p o c e)
theorem same_new {H : Hp} {p : Addr} {o : HO} (h : H p = none) : Same H (upd H p o) := fun b x e => by
  rw [upd_ne (ne_of_none e h)]
  exact e
/-- the new object is no deck -/
theorem bar_new {k p : Addr} {H : Hp} {o : HO} (hk : H k ≠ none) (h : H p = none) : Bar k (upd H p o) p = some o := by
  have c : p ≠ k := fun e => hk (e ▸ h)
  unfold Bar
  rw [if_neg c, upd_same]
/-- an object that stands and is no deck -/
theorem bar_at {k p : Addr} {H : Hp} {o : HO} (c : p ≠ k) (h : H p = some o) : Bar k H p = some o := by
  unfold Bar
  rw [if_neg c, h]

/-! enumerate(t), t a tuple -/
section
variable {prog : Program} {w : World} {A : Around} {E : Value → Shared → Prop} {s : Shared}
set_option maxHeartbeats 8000000 in
theorem meets_enum1 {v : Value} {o : Obj} {Z : Heap → Prop} (B : Begins v o Z) :
    Meets (Builtin.«enumerate.__new__» ⟨[.type "enumerate", v], []⟩) (fun _ R s => Z s.heap ∧
      R (.ok (.ret (.ref (s.heap.push o).objs.size))) { s with heap := (s.heap.push o).push { cls := .type "enumerate", data := .fields #[.none, .bool false, .ref s.heap.objs.size, rawInt 0, .none, .none] } }) :=
  .of_wp fun prog w A R s hz => by
    obtain ⟨hp, g, d, tk, os⟩ := s
    obtain ⟨z1, fin⟩ := hz
    have hsub := sub_enumerate
    have begin_ : ∀ {A' : Around} {E : Value → Shared → Prop} {Q : Value → Shared → Prop}, Q (.ref hp.objs.size) ⟨hp.push o, g, d, tk, os⟩ → wpAny (model prog w) A' (pyIter v) Q E ⟨hp, g, d, tk, os⟩ :=
      fun q => B.iter prog w _ _ ⟨hp, g, d, tk, os⟩ _ z1 q
    wp_walk using begin_
    refine wpAny_stack_any fun st => wpAny_pure ?_
    split
    · rename_i c _ _ _ _ _
      cases (c == Value.type "enumerate") <;> (wp_walk using begin_; exact ⟨_, rfl, fin⟩)
    · wp_walk using begin_
      exact ⟨_, rfl, fin⟩
theorem call_enum1 {v : Value} {o : Obj} {Z : Heap → Prop} {Q : Value → Shared → Prop} (B : Begins v o Z) (h1 : Z s.heap)
    (h : ∀ h', IsEnum h' (s.heap.objs.size + 1) s.heap.objs.size 0 .none → h'.get? s.heap.objs.size = some o → (∀ b u, s.heap.get? b = some u → h'.get? b = some u) → Q (.ref (s.heap.objs.size + 1)) { s with heap := h' }) :
    wpAny (model prog w) A (call (.type "enumerate") [v]) Q E s := by
  refine callType_new F.called_enumerate (by decide) (F.typeCall_enumerate_1 _) (F.newCall_enumerate_1 _) (fun obj => F.args_object_init_2 obj _) F.entry_enumerate_new (meets_enum1 B) ⟨h1, ?_⟩
  have sz : (s.heap.push o).objs.size = s.heap.objs.size + 1 := Heap.size_push ..
  show _ ∧ _
  rw [sz]
  have he : IsEnum ((s.heap.push o).push { cls := .type "enumerate", data := .fields #[.none, .bool false, .ref s.heap.objs.size, rawInt 0, .none, .none] }) (s.heap.objs.size + 1) s.heap.objs.size 0 .none := by
    have q := Heap.get?_push_size (s.heap.push o) (o := { cls := .type "enumerate", data := .fields #[.none, .bool false, .ref s.heap.objs.size, rawInt 0, .none, .none] }) rfl
    rw [sz] at q
    exact q
  exact ⟨⟨_, he, rfl⟩, h _ he (Heap.get?_push_of_some _ (Heap.get?_push_size _ B.free)) fun b u x => Heap.get?_push_of_some _ (Heap.get?_push_of_some _ x)⟩
end
/-- the tuple at a, each item in a new pair with its place -/
def Iet (K : PySem.W.Frag) (a : Addr) : It where
  go := fun i H => ∃ (xs : List V) (x : V), SqT K H a xs ∧ xs[i]? = some x
  yld := fun i H v H' => ∃ T x, v = .ref T ∧ H T = none ∧ H' = upd H T (.tup [.int (i : Nat), x]) ∧ ∀ xs, SqT K H a xs → xs[i]? = some x
  stop := fun i H => ∃ xs : List V, SqT K H a xs ∧ xs.length = i
theorem turn_enumT {P : Program} {w : World} {K : PySem.W.Frag} {elts : List Expr} {kk : Nat} {tpos : Pos} (a e it : Addr) :
    Turn P w K (.Tuple elts kk tpos) (Iet K a) [e, it] e (fun i h => (∃ old, IsEnum h e it ((i : Nat) : Int) old) ∧ h.IsTupleIter it a i ∧ e ≠ it ∧ a ≠ it ∧ a ≠ e) where
  mem := List.mem_cons_self
  obj := fun i h st b hb => by
    obtain ⟨⟨old, he⟩, ⟨o, ho, hc, hd⟩, _⟩ := st
    rcases List.mem_cons.mp hb with z | hb
    · subst z; exact ⟨_, he, fun v q => nomatch q⟩
    · obtain rfl := List.mem_singleton.mp hb
      exact ⟨o, ho, fun v q => by rw [hd] at q; cases q⟩
  keep := fun i h h' st k => by
    obtain ⟨⟨old, he⟩, hi, n1, n2, n3⟩ := st
    exact ⟨⟨old, k e List.mem_cons_self _ he⟩, hi.at fun o q => k it (List.mem_cons_of_mem _ List.mem_cons_self) o q, n1, n2, n3⟩
  item := by
    intro X hP hw hK hc i pins s σ H E I hf st hg
    subst hP hw hK
    obtain ⟨⟨old, he⟩, hit, n1, n2, n3⟩ := st
    obtain ⟨xs, x, hq, hx⟩ := hg
    obtain ⟨its, rv, p, hz⟩ := I.tuple hq
    have hlt : i < xs.length := (List.getElem?_eq_some_iff.mp hx).1
    have hl := rv.length
    have hel : e < s.heap.objs.size := Heap.lt_size he
    have hil : it < s.heap.objs.size := by obtain ⟨_, q, _⟩ := hit; exact Heap.lt_size q
    refine wpAny_pyNext_enum_itemD (Draws.tuple (A := X.A.in1) (I.ok.hd hc) it a n2 its.toArray) he ⟨hit, p⟩ (by rw [List.size_toArray]; omega) n1 (by simp [n1, Ne.symm n3]) fun u h' tk hu ho st' hT hsz hk => ?_
    obtain ⟨u', hu', ru⟩ := rv.get hx
    have eu : u = u' := by
      have q : its.toArray[i]? = some u := hu
      rw [List.getElem?_toArray, hu'] at q
      exact (Option.some.inj q).symm
    subst eu
    refine ⟨_, rfl, wpAny_letOwnedTupleGo_enum (s := { s with heap := h', toks := tk + 1 }) ho fun h'' he' sb => ?_⟩
    have hT2 : h''.get? s.heap.objs.size = some { cls := .type "tuple", data := .seq #[.int i tk, u] } := (sb.2 _ (Nat.ne_of_gt hel)).trans hT
    have new : ObjOk X.prog X.w (upd H s.heap.objs.size (.tup [.int (i : Nat), x])) h'' s.heap.objs.size (.tup [.int (i : Nat), x]) :=
      ⟨by show 2 ≤ sizeLine; decide, [.int i tk, u], .cons ⟨_, rfl⟩ (.cons ru .nil), ⟨_, hT2, rfl, _, rfl⟩⟩
    have mem2 : it ∈ [e, it] := List.mem_cons_of_mem _ List.mem_cons_self
    have I1 : Inv X pins σ (upd H s.heap.objs.size (.tup [.int (i : Nat), x])) { s with heap := h'', toks := tk + 1 } := by
      refine I.turnedNew (ch := [e, it]) (fun b ob hb q => ?_) hf (Nat.le_refl _) new
      have b1 : b ≠ e := fun z => hb (z ▸ List.mem_cons_self)
      have b2 : b ≠ it := fun z => hb (z ▸ mem2)
      exact (sb.2 b b1).trans (hk b ob b1 b2 q)
    refine ⟨.ref s.heap.objs.size, _, I1, rfl, ⟨_, x, rfl, I.hok.fresh (Nat.le_refl _), rfl, fun ys hy => by rw [I.tuple_inj hy hq]; exact hx⟩, ⟨⟨u, ?_⟩, st'.1.at fun o q => (sb.2 it (Ne.symm n1)).trans q, n1, n2, n3⟩, fun b hb => ?_⟩
    · rw [show ((i + 1 : Nat) : Int) = (i : Int) + 1 by omega]
      exact he'
    · have hb' : b < s.heap.objs.size := by
        rcases List.mem_cons.mp hb with z | z
        · rw [z]; exact hel
        · rw [List.mem_singleton.mp z]; exact hil
      rw [upd_ne (Nat.ne_of_lt hb')]
      exact (hf b hb).1
  done := by
    intro X hP hw hK hc i pins s σ H E I hf st hg
    subst hP hw hK
    obtain ⟨⟨old, he⟩, hit, n1, n2, n3⟩ := st
    obtain ⟨xs, hq, hx⟩ := hg
    obtain ⟨its, rv, p, hz⟩ := I.tuple hq
    have mem2 : it ∈ [e, it] := List.mem_cons_of_mem _ List.mem_cons_self
    obtain ⟨f0, f1, f2, f3, f4, f5⟩ := hf it mem2
    have hl := rv.length
    have st2 : s.heap.IsTupleIter it a its.toArray.size := by
      rw [List.size_toArray, ← hl, hx]
      exact hit
    exact wpAny_pyNext_enum_endD (Draws.tuple (A := X.A.in1) (I.ok.hd hc) it a n2 its.toArray) he ⟨st2, p⟩ fun h' eb => ⟨rfl, I.turned (t' := s.toks) (fun b o hb q => eb b o hb q) f0 f1 f3 f4 f5⟩
  self := fun A i s Q E st h => by
    obtain ⟨⟨_, he⟩, _⟩ := st
    exact wpAny_pyIter_enum he h
def iEnumT (K : PySem.W.Frag) (ta : TA) : TI := fun σ H R => ta σ H fun vs H1 => ∃ a xs, vs = [.ref a] ∧ SqT K H1 a xs ∧ R (Iet K a) H1
theorem pi_enumT {X : Cx} {e : Expr} {ta : TA} {p pos tpos : Pos} {elts : List Expr} {kk : Nat} (hg : Gl X "enumerate") (hm : X.mg "enumerate" = none) (ha : PA X [e] ta) (hs : starEach [e] X.env = [(false, eval e X.env)] := by rfl) :
    PI X (.Tuple elts kk tpos) (.Call (.Name "enumerate" p) [e] [] pos) (iEnumT X.K ta) where
  run := fun pins s σ H R I h => by
    refine Call_ (ld_blt I hg hm boot_enumerate (PyProof.Rows.callWith_type1 (thn (ha.run pos pins s σ H _ I h) fun us s1 hh => ?_) hs rfl))
    obtain ⟨vs, H1, I1, r1, a, xs, ex, hq, q⟩ := hh
    subst ex
    cases r1 with
    | cons r rr =>
      cases rr
      cases r
      obtain ⟨its, rv, p', hz⟩ := I1.tuple hq
      have ha : a < s1.heap.objs.size := IsTup.lt p'
      refine call_enum1 (begins_tuple a its.toArray) p' fun h' he hit hk => wpAny_pyIter_enum he ?_
      have I2 : Inv X pins σ H1 { s1 with heap := h' } := I1.kept (t' := s1.toks) hk
      have big : ∀ b ∈ [s1.heap.objs.size + 1, s1.heap.objs.size], s1.heap.objs.size ≤ b := fun b hb => by
        rcases List.mem_cons.mp hb with z | z
        · rw [z]; exact Nat.le_succ _
        · rw [List.mem_singleton.mp z]; exact Nat.le_refl _
      exact ⟨s1.heap.objs.size + 1, [s1.heap.objs.size + 1, s1.heap.objs.size], _, _, H1, rfl, I2, turn_enumT a (s1.heap.objs.size + 1) s1.heap.objs.size,
        ⟨⟨.none, he⟩, ⟨_, hit, rfl, rfl⟩, Nat.succ_ne_self _, Nat.ne_of_lt ha, Nat.ne_of_lt (Nat.lt_succ_of_lt ha)⟩, fun b hb => I1.fpOk (big b hb) (I1.hok.fresh (big b hb)), q⟩

/-! raise X(): an own class over ValueError, called with nothing -/
theorem pmk_own0 {X : Cx} {C : Addr} {bmB : List Value} {B newId initId : String} {x : Str} {p pos : Pos} (F : ExcBaseFacts B newId initId bmB) (q : PySem.W.excIn X.K C bmB newId = true) (gC : X.mg x = some (.ref C)) (kC : PySem.W.keepIn X.K (.ref C) = true)
    (r : Raises X (.ref C)) (hg : Gl X x) (hdb : (x == ("__debug__" : Str)) = false := by decide) : PMk X (.Call (.Name x p) [] [] pos) (fun _ H Q => Q (.ref C) none H) := by
  intro pins s σ H Q I h
  refine wpAny_Call_Name_kw (ld_glob I hg gC (PySem.W.callWith_K0 I.kIn kC ?_) hdb)
  show wpAny _ _ (call (.ref C) []) _ _ _
  obtain ⟨bm, N, nm, qn, bs, hdct, sn, sub, ab, col, dd, k0, k1, k2, k3, k5, mN, hC, hN, hni, T⟩ := exc_obj I.kIn q
  exact wpAny_call_exc_subT F T hC hN hni (fun h' e hm => mk_of I hm r h (I.hok.gone hm.new)) (Nat.zero_le _)

/-! a def as it stands behind the top; a def that keeps a promise, for whoever calls it -/
structure DefAt (K : PySem.W.Frag) (x : Str) (st : Stmt) (f : Addr) : Prop where
  ns : PySem.W.nsIn K mainGlobals x = some (some (.ref f))
  ob : ∃ (oc : Value) (od an : Option Addr) (sl : Array (Option Value)) (kV dc pm cd ct : Value), K.lookup f = some ⟨oc, od, .func (PySem.W.fnOf x x (defArgs st) (defBody st) (defScope st) .none kV dc pm an cd ct), sl⟩ ∧ PySem.W.codeIn K cd x = true
  kp : PySem.W.keepIn K (.ref f) = true
structure At (K : PySem.W.Frag) (mg : Str → Option Value) (x : Str) (st : Stmt) : Prop where
  ex : ∃ (f : Addr) (fd : FuncData), Fun K x x st f fd ∧ mg x = some (.ref f)
theorem DefAt.at {K : PySem.W.Frag} {mg : Str → Option Value} {h : Heap} {x : Str} {st : Stmt} {f : Addr} (D : DefAt K x st f) (X : K.In h) (G : h.Ns mainGlobals mg) : At K mg x st := by
  obtain ⟨oc, od, an, sl, kV, dc, pm, cd, ct, l, c⟩ := D.ob
  exact ⟨f, _, fun_mk l c D.kp, PySem.W.mg_of X G D.ns⟩
structure Cal (P : Program) (w : World) (K : PySem.W.Frag) (mg : Str → Option Value) (base : Heap) (CX : CXT) (k : Nat) (x : Str) (ps : List Str) (sp : Sp) : Prop where
  ex : ∃ (f : Addr) (fd : FuncData), FnOk P w K mg base CX k f fd ps sp ∧ mg x = some (.ref f) ∧ PySem.W.keepIn K (.ref f) = true ∧ Binds K fd ps []
section
variable {P : Program} {w : World} {K : PySem.W.Frag} {mg : Str → Option Value} {base : Heap} {CX : CXT} {k : Nat} {x : Str} {st : Stmt} {ps : List Str} {sp : Sp}
theorem cal_mk (D : At K mg x st) (hb : ∀ (kV doc pm : Value) (an : Option Addr) (cdv ct : Value) (us : List Value), us.length = ps.length → bindArgs (PySem.W.fnOf x x (defArgs st) (defBody st) (defScope st) .none kV doc pm an cdv ct) ⟨us, []⟩ = pure (ps.zip us))
    (h : ∀ f fd, Fun K x x st f fd → FnOk P w K mg base CX k f fd ps sp) : Cal P w K mg base CX k x ps sp := by
  obtain ⟨f, fd, F, m⟩ := D.ex
  exact ⟨f, fd, h f fd F, m, F.kp, F.binds hb⟩
end
theorem pe_cal {X : Cx} {k j : Nat} {x : Str} {ps : List Str} {sp : Sp} {p pos : Pos} {e : Expr} {es : List Expr} {t : TA} (C : Cal X.prog X.w X.K X.mg X.base CX0 k x ps sp) (hr : Room j X.A) (hk : k ≤ j) (hg : Gl X x) (ha : PA X (e :: es) t)
    (hdb : (x == ("__debug__" : Str)) = false := by decide) (he : starEach (e :: es) X.env = (false, eval e X.env) :: starEach es X.env := by rfl) (hpl : (backTo pos (starEach es X.env)).any (·.1) = false := by rfl) :
    PE X (.Call (.Name x p) (e :: es) [] pos) (tCall sp [] E0 t) := by
  obtain ⟨f, fd, G, m, kp, b⟩ := C.ex
  exact pe_call G (hr.mono hk) hg m kp b .nil pass0 ha hdb he hpl
/-- a constant of the module -/
theorem pe_gi {X : Cx} {x : Str} {n : Int} {pos : Pos} (hm : ∃ t, X.mg x = some (.int n t)) (hg : Gl X x) (hd : (x == ("__debug__" : Str)) = false := by decide) : PE X (.Name x pos) (tC (.int n)) := by
  obtain ⟨t, m⟩ := hm
  exact pe_glob hg m ⟨t, rfl⟩ hd
structure Frees (mg : Str → Option Value) : Prop where
  isi : mg "isinstance" = none
  int : mg "int" = none
  bool : mg "bool" = none
  tup : mg "tuple" = none
  len : mg "len" = none
  all : mg "all" = none
  range : mg "range" = none
  sum : mg "sum" = none
  enum : mg "enumerate" = none
  list : mg "list" = none
  abs : mg "abs" = none
  sorted : mg "sorted" = none
structure Consts (mg : Str → Option Value) : Prop where
  words : ∃ t, mg "MOST_WORDS" = some (.int 40 t)
  cell : ∃ t, mg "IN_CELL" = some (.int 4 t)
  word : ∃ t, mg "MOST_WORD" = some (.int 255 t)
  round : ∃ t, mg "ROUND" = some (.int 251 t)
  stream : ∃ t, mg "MOST_STREAM" = some (.int 99 t)
  kind : ∃ t, mg "MOST_KIND" = some (.int 7 t)
  outs : ∃ t, mg "MOST_OUTPUTS" = some (.int 12 t)
  copies : ∃ t, mg "MOST_COPIES" = some (.int 3 t)
  number : ∃ t, mg "MOST_NUMBER" = some (.int 1000000000 t)
/-! isinstance(a, T), T a built-in class -/
section
variable {X : Cx} {e : Expr} {te : TE} {p p2 pos : Pos}
theorem pe_isInt (Z : Frees X.mg) (hg : Gl X "isinstance") (hg2 : Gl X "int") (he : PE X e te) (h1 : starEach [e, .Name "int" p2] X.env = (false, eval e X.env) :: starEach [.Name "int" p2] X.env := by rfl) :
    PE X (.Call (.Name "isinstance" p) [e, .Name "int" p2] [] pos) (tCB (rIsi X.K) (tCons te (tCons (tC (.ty "int")) tNil))) :=
  pe_callB call_isi hg Z.isi (by decide +kernel) (pa_cons he (pa_cons (pe_bltn (v := .ty "int") hg2 Z.int (by decide +kernel) rfl) pa_nil) h1) (he := h1)
theorem pe_isBool (Z : Frees X.mg) (hg : Gl X "isinstance") (hg2 : Gl X "bool") (he : PE X e te) (h1 : starEach [e, .Name "bool" p2] X.env = (false, eval e X.env) :: starEach [.Name "bool" p2] X.env := by rfl) :
    PE X (.Call (.Name "isinstance" p) [e, .Name "bool" p2] [] pos) (tCB (rIsi X.K) (tCons te (tCons (tC (.ty "bool")) tNil))) :=
  pe_callB call_isi hg Z.isi (by decide +kernel) (pa_cons he (pa_cons (pe_bltn (v := .ty "bool") hg2 Z.bool (by decide +kernel) rfl) pa_nil) h1) (he := h1)
theorem pe_isTup (Z : Frees X.mg) (hg : Gl X "isinstance") (hg2 : Gl X "tuple") (he : PE X e te) (h1 : starEach [e, .Name "tuple" p2] X.env = (false, eval e X.env) :: starEach [.Name "tuple" p2] X.env := by rfl) :
    PE X (.Call (.Name "isinstance" p) [e, .Name "tuple" p2] [] pos) (tCB (rIsi X.K) (tCons te (tCons (tC (.ty "tuple")) tNil))) :=
  pe_callB call_isi hg Z.isi (by decide +kernel) (pa_cons he (pa_cons (pe_bltn (v := .ty "tuple") hg2 Z.tup (by decide +kernel) rfl) pa_nil) h1) (he := h1)
end

/-- a rule with another reading, which says more -/
theorem PE.use {X : Cx} {e : Expr} {t t' : TE} (h : PE X e t) (i : ∀ σ H Q, t' σ H Q → t σ H Q) : PE X e t' := ⟨fun pins s σ H Q I w => h.run pins s σ H Q I (i σ H Q w)⟩
theorem small_line {n : Nat} (h : n ≤ 100000) : n ≤ sizeLine := Nat.le_trans h (by decide)
theorem small_lt {n : Nat} (h : n < 100000) : n < sizeLine := Nat.lt_of_lt_of_le h (by decide)
/-- all([f(x) for x in t]), t a tuple of data -/
def tAll (K : PySem.W.Frag) (j : Nat) (f : PyData → Bool) (tl te : TE) : TE := fun σ H Q => tl σ H fun v H1 => ∃ a xs ds, v = .ref a ∧ SqT K H1 a xs ∧ DpAll K H1 xs ds ∧ xs.length ≤ 100000 ∧ (∀ x, wipe ((wipe σ [j]).set j (some x)) [j] = wipe σ [j]) ∧
  (∀ (x : V) (d : PyData) (H2 : Hp) (Q2 : VK), Same H1 H2 → Dp K H2 x d → Q2 (.bl (f d)) H2 → te ((wipe σ [j]).set j (some x)) H2 Q2) ∧ ∀ H', Same H1 H' → Q (.bl (ds.all f)) H'
theorem all_reads {K : PySem.W.Frag} {j : Nat} {f : PyData → Bool} {tl te : TE} {σ : L2.St} {H : Hp} {Q : VK} (mono : ∀ σ H Q Q', (∀ v H', Q v H' → Q' v H') → tl σ H Q → tl σ H Q') (h : tAll K j f tl te σ H Q) :
    tLc (iTup K tl) (gName j) tYes te [j] σ H fun x H1 => rAll K [x] H1 Q := by
  refine mono _ _ _ _ (fun v H1 h1 => ?_) h
  obtain ⟨a, xs, ds, rfl, ht, ha, hz, hw, he, q⟩ := h1
  have hl := dpa_len ha
  refine ⟨a, rfl, ⟨xs, ht⟩, fun D nD => lc_tup (K := K) (a := a) (xs := xs) (fun i H' => Same H1 H' ∧ H' D = some (.lst (((ds.take i).map f).map V.bl))) ⟨same_new nD, upd_same⟩ (fun i H' _ p => seqT_up p.1 ht) (fun i x H' hi p => ?_) (fun H' p => ?_)⟩
  · obtain ⟨s1, eD⟩ := p
    obtain ⟨d, gd, hx⟩ := dpa_at ha hi
    have hlt : i < ds.length := (List.getElem?_eq_some_iff.mp gd).1
    refine ⟨hw x, ?_⟩
    show te ((wipe σ [j]).set j (some x)) H' fun y H4 => ∃ acc, H4 D = some (.lst acc) ∧ acc.length < sizeLine ∧ (Same H1 (upd H4 D (.lst (acc ++ [y]))) ∧ (upd H4 D (.lst (acc ++ [y]))) D = some (.lst (((ds.take (i + 1)).map f).map V.bl)))
    refine he x d H' _ s1 (dp_up s1 d x hx) ⟨_, eD, ?_, ?_, ?_⟩
    · rw [List.length_map, List.length_map, List.length_take]
      exact small_lt (by omega)
    · intro b o e
      have nb : b ≠ D := ne_of_none e nD
      rw [upd_ne nb]
      exact s1 b o e
    · rw [upd_same, List.take_add_one, gd, List.map_append, List.map_append]
      rfl
  · obtain ⟨s1, eD⟩ := p
    rw [hl, List.take_length] at eD
    refine ⟨D, ds.map f, rfl, SqL.of eD, ?_⟩
    have e : (ds.map f).all id = ds.all f := by
      rw [List.all_map]
      rfl
    rw [e]
    exact q H' s1
theorem pe_all {X : Cx} {elt iter : Expr} {scope : Scope} {y : Str} {j : Nat} {tl te : TE} {p pt pos pos' : Pos} (f : PyData → Bool) (Z : Frees X.mg) (hc : X.calm = true) (hN : X.N.Nodup) (hg : Gl X "all") (hi : PE X iter tl)
    (mono : ∀ σ H Q Q', (∀ v H', Q v H' → Q' v H') → tl σ H Q → tl σ H Q') (ok : BlkOk X.N X.env.scope scope [(y, j)])
    (hy : ∀ (s : Shared) (H : Hp) (C : Addr) (cl : List (Str × Addr)) (fp : List Addr), PG (X.blk s H scope (compEnvC scope cl C X.env) fp) (.Name y pt) (gName j))
    (he : ∀ (s : Shared) (H : Hp) (C : Addr) (cl : List (Str × Addr)) (fp : List Addr), PE (X.blk s H scope (compEnvC scope cl C X.env) fp) elt te) (hs : ∀ x, foldedSetIterable iter X.env x = pure x := by intro _; rfl) :
    PE X (.Call (.Name "all" p) [.ListComp elt [⟨.Name y pt, iter, [], 0⟩] scope pos] [] pos') (tAll X.K j f tl te) :=
  PE.use (pe_callB (cr_all hc) hg Z.all (by decide +kernel) (pa_cons (pe_lc (own := [(y, j)]) hc hN (pi_tup hi) ok hy (fun _ _ _ _ _ => pts_nil) he hs) pa_nil)) fun σ H Q h => all_reads mono h
theorem mono_var {i : Nat} : ∀ σ H (Q Q' : VK), (∀ v H', Q v H' → Q' v H') → tVar i σ H Q → tVar i σ H Q' := fun σ H Q Q' k ⟨v, e, q⟩ => ⟨v, e, k v H q⟩
/-- tests that say no -/
theorem nt {b : Bool} (c : (!b) = true) : b = false := by
  cases b with
  | false => rfl
  | true => cases c
theorem nf {b : Bool} (c : ¬ (!b) = true) : b = true := by
  cases b with
  | true => rfl
  | false => exact absurd rfl c
theorem nd {b : Bool} (c : ¬ b = true) : b = false := Bool.eq_false_iff.mpr c
end Kx

namespace Kx
open PySem PySem.Spec PyProof.Rows L2
section
variable {P : Program} {w : World} {K : PySem.W.Frag} {mg : Str → Option Value} {base : Heap}

/-! is_integer, is_within -/
theorem scInteger : FnScope ["thing"] ["thing"] (defScope (topS 1)) := ⟨rfl, rfl, rfl, by decide +kernel, rfl, by decide +kernel, by decide +kernel⟩
def spInteger (K : PySem.W.Frag) : Sp := fun vs H Q _ => ∃ v d, vs = [v] ∧ Dp K H v d ∧ Q (.bl (isI d)) H
theorem isI_kinds (d : PyData) : isI d = (kInt d && !kBool d) := by cases d <;> rfl
theorem ok_integer (Z : Frees mg) (D : At K mg "is_integer" (topS 1)) : Cal P w K mg base CX0 1 "is_integer" ["thing"] (spInteger K) :=
  cal_mk D (fun _ _ _ _ _ _ us hl => match us, hl with | [_], _ => rfl) fun f fd F => by
  refine F.ok scInteger (fun vs H Q E h => ?_) (fun cdv A outer s H vs Q E hr h => ?_)
  · obtain ⟨v, d, rfl, _⟩ := h
    rfl
  · obtain ⟨v, d, rfl, hd, q⟩ := h
    refine ⟨_, pss_one (ps_ret (pe_and (pe_isInt Z rfl rfl (pv 0)) (pe_one (pe_not (pe_isBool Z rfl rfl (pv 0)))))), ?_⟩
    refine ⟨v, rfl, v, .ty "int", _, _, _, rfl, .ty "int", dp_ty hd, ki_int d, _, rfl, ite2 (fun c => ?_) (fun c => ?_)⟩
    · refine ⟨v, rfl, v, .ty "bool", _, _, _, rfl, .ty "bool", dp_ty hd, ki_bool d, _, rfl, ?_⟩
      rw [isI_kinds, c] at q
      exact q
    · rw [isI_kinds, Bool.eq_false_iff.mpr c] at q
      exact q

theorem scWithin : FnScope ["thing", "least", "most"] ["thing", "least", "most"] (defScope (topS 2)) := ⟨rfl, rfl, rfl, by decide +kernel, rfl, by decide +kernel, by decide +kernel⟩
def spWithin (K : PySem.W.Frag) : Sp := fun vs H Q _ => ∃ v d lo hi, vs = [v, .int lo, .int hi] ∧ Dp K H v d ∧ Q (.bl (wIn lo hi d)) H
theorem wIn_not {lo hi : Int} {d : PyData} (h : ¬ isI d = true) : wIn lo hi d = false := by
  cases d <;> first | rfl | exact absurd rfl h
theorem isI_int {d : PyData} (h : isI d = true) : ∃ i, d = .int i := by
  cases d <;> first | exact ⟨_, rfl⟩ | cases h
theorem dp_int {H : Hp} {v : V} {i : Int} (h : Dp K H v (.int i)) : v = .int i := by
  cases h
  rfl
theorem ok_within (D1 : Cal P w K mg base CX0 1 "is_integer" ["thing"] (spInteger K)) (D : At K mg "is_within" (topS 2)) : Cal P w K mg base CX0 2 "is_within" ["thing", "least", "most"] (spWithin K) :=
  cal_mk D (fun _ _ _ _ _ _ us hl => match us, hl with | [_, _, _], _ => rfl) fun f fd F => by
  refine F.ok scWithin (fun vs H Q E h => ?_) (fun cdv A outer s H vs Q E hr h => ?_)
  · obtain ⟨v, d, lo, hi, rfl, _⟩ := h
    rfl
  · obtain ⟨v, d, lo, hi, rfl, hd, q⟩ := h
    refine ⟨_, pss_one (ps_ret (pe_and (pe_cal D1 hr (by decide) rfl (pa_cons (pv 0) pa_nil)) (pe_one (pe_chain op_le op_le (pv 1) (pv 0) (pv 2))))), ?_⟩
    refine ⟨v, rfl, v, d, rfl, hd, _, rfl, ite2 (fun c => ?_) (fun c => ?_)⟩
    · obtain ⟨i, rfl⟩ := isI_int c
      have ev := dp_int hd
      subst ev
      refine ⟨.int lo, rfl, .int i, rfl, lo, i, rfl, rfl, _, rfl, ite2 (fun c1 => ?_) (fun c1 => ?_)⟩
      · refine ⟨.int hi, rfl, i, hi, rfl, rfl, ?_⟩
        have e : wIn lo hi (.int i) = decide (i ≤ hi) := by
          show (decide (lo ≤ i) && decide (i ≤ hi)) = _
          rw [c1, Bool.true_and]
        rw [e] at q
        exact q
      · have e : wIn lo hi (.int i) = false := by
          show (decide (lo ≤ i) && decide (i ≤ hi)) = _
          rw [Bool.eq_false_iff.mpr c1, Bool.false_and]
        rw [e] at q
        exact q
    · rw [wIn_not c] at q
      exact q

/-! the law's own is_within -/
theorem scLWithin : FnScope ["_law_thing", "_law_least", "_law_most"] ["_law_thing", "_law_least", "_law_most"] (defScope (topS 31)) := ⟨rfl, rfl, rfl, by decide +kernel, rfl, by decide +kernel, by decide +kernel⟩
theorem ok_lwithin (Z : Frees mg) (D : At K mg "_law_is_within" (topS 31)) : Cal P w K mg base CX0 1 "_law_is_within" ["_law_thing", "_law_least", "_law_most"] (spWithin K) :=
  cal_mk D (fun _ _ _ _ _ _ us hl => match us, hl with | [_, _, _], _ => rfl) fun f fd F => by
  refine F.ok scLWithin (fun vs H Q E h => ?_) (fun cdv A outer s H vs Q E hr h => ?_)
  · obtain ⟨v, d, lo, hi, rfl, _⟩ := h
    rfl
  · obtain ⟨v, d, lo, hi, rfl, hd, q⟩ := h
    refine ⟨_, pss_one (ps_ret (pe_and (pe_isInt Z rfl rfl (pv 0)) (pe_and (pe_not (pe_isBool Z rfl rfl (pv 0))) (pe_one (pe_chain op_le op_le (pv 1) (pv 0) (pv 2)))))), ?_⟩
    refine ⟨v, rfl, v, .ty "int", _, _, _, rfl, .ty "int", dp_ty hd, ki_int d, _, rfl, ite2 (fun c => ?_) (fun c => ?_)⟩
    · refine ⟨v, rfl, v, .ty "bool", _, _, _, rfl, .ty "bool", dp_ty hd, ki_bool d, _, rfl, _, rfl, ite2 (fun c2 => ?_) (fun c2 => ?_)⟩
      · have ci : isI d = true := by rw [isI_kinds, c, c2] <;> rfl
        obtain ⟨i, rfl⟩ := isI_int ci
        have ev := dp_int hd
        subst ev
        refine ⟨.int lo, rfl, .int i, rfl, lo, i, rfl, rfl, _, rfl, ite2 (fun c1 => ?_) (fun c1 => ?_)⟩
        · refine ⟨.int hi, rfl, i, hi, rfl, rfl, ?_⟩
          have e : wIn lo hi (.int i) = decide (i ≤ hi) := by
            show (decide (lo ≤ i) && decide (i ≤ hi)) = _
            rw [c1, Bool.true_and]
          rw [e] at q
          exact q
        · have e : wIn lo hi (.int i) = false := by
            show (decide (lo ≤ i) && decide (i ≤ hi)) = _
            rw [Bool.eq_false_iff.mpr c1, Bool.false_and]
          rw [e] at q
          exact q
      · have ci : ¬ isI d = true := by
          rw [isI_kinds, Bool.eq_false_iff.mpr c2, Bool.and_false]
          exact Bool.false_ne_true
        rw [wIn_not ci] at q
        exact q
    · have ci : ¬ isI d = true := by
        rw [isI_kinds, Bool.eq_false_iff.mpr c, Bool.false_and]
        exact Bool.false_ne_true
      rw [wIn_not ci] at q
      exact q

/-! is_lot -/
theorem scLot : FnScope ["thing", "many", "last", "number"] ["thing", "many"] (defScope (topS 3)) := ⟨rfl, rfl, rfl, by decide +kernel, rfl, by decide +kernel, by decide +kernel⟩
def spLot (K : PySem.W.Frag) : Sp := fun vs H Q _ => ∃ v d many, vs = [v, .int many] ∧ Dp K H v d ∧ Q (.bl (lot many d)) H
theorem kTup_tup {d : PyData} (h : kTup d = true) : ∃ ds, d = .tuple ds := by
  cases d <;> first | exact ⟨_, rfl⟩ | cases h
theorem lot_not {many : Int} {d : PyData} (h : ¬ kTup d = true) : lot many d = false := by
  cases d <;> first | rfl | exact absurd rfl h
theorem dp_tup {H : Hp} {v : V} {ds : List PyData} (h : Dp K H v (.tuple ds)) : ∃ a xs, v = .ref a ∧ SqT K H a xs ∧ DpAll K H xs ds := by
  cases h with
  | tup hs ha => exact ⟨_, _, rfl, hs, ha⟩
theorem lotFrom_cons (many last : Int) (d : PyData) (r : List PyData) : lotFrom many last (d :: r) = (wIn (last + 1) (many - 1) d && lotFrom many (intOf d) r) := by
  cases d <;> rfl
theorem ok_lot (Z : Frees mg) (D1 : Cal P w K mg base CX0 2 "is_within" ["thing", "least", "most"] (spWithin K)) (D : At K mg "is_lot" (topS 3)) : Cal P w K mg base CX0 3 "is_lot" ["thing", "many"] (spLot K) :=
  cal_mk D (fun _ _ _ _ _ _ us hl => match us, hl with | [_, _], _ => rfl) fun f fd F => by
  refine F.ok scLot (fun vs H Q E h => ?_) (fun cdv A outer s H vs Q E hr h => ?_)
  · obtain ⟨v, d, many, rfl, _⟩ := h
    rfl
  · obtain ⟨v, d, many, rfl, hd, q⟩ := h
    refine ⟨_, pss_cons (ps_if (pt_not (pt_val (pe_isTup Z rfl rfl (pv 0)))) (pss_one (ps_ret pe_bl)) pss_nil)
      (pss_cons (ps_set (i := 2) scLot.nd rfl (Or.inl rfl) (pe_un un_neg pe_int))
      (pss_cons (ps_for PassesOwn.never rfl (pi_tup (pv 0)) (pg_name (i := 3) scLot.nd rfl (Or.inl rfl))
        (pss_cons (ps_if (pt_not (pt_val (pe_cal D1 hr (by decide) rfl (pa_cons (pv 3) (pa_cons (pe_op op_add (pv 2) pe_int) (pa_cons (pe_op op_sub (pv 1) pe_int) pa_nil)))))) (pss_one (ps_ret pe_bl)) pss_nil)
        (pss_one (ps_set (i := 2) scLot.nd rfl (Or.inl rfl) (pv 3)))))
      (pss_one (ps_ret pe_bl)))), ?_⟩
    refine ⟨v, rfl, v, .ty "tuple", _, _, _, rfl, .ty "tuple", dp_ty hd, ki_tup d, _, rfl, ite2 (fun c => ?_) (fun c => ?_)⟩
    · have c' : ¬ kTup d = true := by
        intro z
        rw [z] at c
        cases c
      rw [lot_not c'] at q
      exact q
    · have c' : kTup d = true := by
        cases e : kTup d with
        | true => rfl
        | false => rw [e] at c; exact absurd rfl c
      obtain ⟨ds, rfl⟩ := kTup_tup c'
      obtain ⟨a, xs, rfl, ht, ha⟩ := dp_tup hd
      have hl := dpa_len ha
      refine ⟨1, rfl, .ref a, rfl, a, rfl, ⟨xs, ht⟩, for_tup (K := K) (a := a) (xs := xs) (fun i σ H' => ∃ last y, σ = [some (.ref a), some (.int many), some (.int last), y] ∧ H' = H ∧ lotFrom many (-1) ds = lotFrom many last (ds.drop i))
        ⟨-1, none, rfl, rfl, rfl⟩ (fun i σ H' _ hp => ?_) ?_ ?_⟩
      · obtain ⟨_, _, _, rfl, _⟩ := hp
        exact ht
      · rintro i x σ H' hi ⟨last, y, rfl, rfl, e⟩
        obtain ⟨d, gd, hx⟩ := dpa_at ha hi
        have ed : ds.drop i = d :: ds.drop (i + 1) := by
          obtain ⟨h1, h2⟩ := List.getElem?_eq_some_iff.mp gd
          rw [List.drop_eq_getElem_cons h1, h2]
        rw [ed, lotFrom_cons] at e
        refine ⟨x, rfl, .int last, rfl, last, 1, rfl, rfl, .int many, rfl, many, 1, rfl, rfl, x, d, last + 1, many - 1, rfl, hx, _, rfl, ite2 (fun c => ?_) (fun c => ?_)⟩
        · have e2 : wIn (last + 1) (many - 1) d = false := by
            cases z : wIn (last + 1) (many - 1) d with
            | false => rfl
            | true => rw [z] at c; cases c
          rw [e2, Bool.false_and] at e
          show Q (.bl false) H'
          have q' : Q (.bl (lotFrom many (-1) ds)) H' := q
          rw [e] at q'
          exact q'
        · have e2 : wIn (last + 1) (many - 1) d = true := by
            cases z : wIn (last + 1) (many - 1) d with
            | true => rfl
            | false => rw [z] at c; exact absurd rfl c
          rw [e2, Bool.true_and] at e
          have e3 : x = .int (intOf d) := by
            cases d with
            | int n => exact dp_int hx
            | _ => cases e2
          refine ⟨x, rfl, ?_⟩
          rw [e3]
          exact ⟨intOf d, _, rfl, rfl, e⟩
      · rintro σ H' ⟨last, y, rfl, rfl, e⟩
        rw [hl, List.drop_length] at e
        show Q (.bl true) H'
        have q' : Q (.bl (lotFrom many (-1) ds)) H' := q
        rw [e] at q'
        exact q'
end
end Kx

namespace Kx
open PySem PySem.Spec PyProof.Rows L2
section
variable {P : Program} {w : World} {K : PySem.W.Frag} {mg : Str → Option Value} {base : Heap}

/-! is_packet_for -/
theorem scPacket : FnScope ["lines", "most", "thing", "stream", "kind", "outs", "words", "word"] ["lines", "most", "thing"] (defScope (topS 18)) := ⟨rfl, rfl, rfl, by decide +kernel, rfl, by decide +kernel, by decide +kernel⟩
def spPacket (K : PySem.W.Frag) : Sp := fun vs H Q _ => ∃ v d, vs = [.int 12, .int 3, v] ∧ Dp K H v d ∧ ∀ H', Same H H' → Q (.bl (packet d)) H'
theorem packet_not {d : PyData} (h : ¬ kTup d = true) : packet d = false := by
  cases d <;> first | rfl | exact absurd rfl h
theorem packet_len {ds : List PyData} (h : ds.length ≠ 4) : packet (.tuple ds) = false := by
  match ds, h with
  | [], _ => rfl
  | [_], _ => rfl
  | [_, _], _ => rfl
  | [_, _, _], _ => rfl
  | [_, _, _, _], h => exact absurd rfl h
  | _ :: _ :: _ :: _ :: _ :: _, _ => rfl
theorem four {α : Type} {l : List α} (h : l.length = 4) : ∃ a b c d, l = [a, b, c, d] := by
  match l, h with
  | [a, b, c, d], _ => exact ⟨a, b, c, d, rfl⟩
theorem five {α : Type} {l : List α} (h : l.length = 5) : ∃ a b c d e, l = [a, b, c, d, e] := by
  match l, h with
  | [a, b, c, d, e], _ => exact ⟨a, b, c, d, e, rfl⟩
theorem dpa4 {H : Hp} {xs : List V} {a b c d : PyData} (h : DpAll K H xs [a, b, c, d]) : ∃ x y z u, xs = [x, y, z, u] ∧ Dp K H x a ∧ Dp K H y b ∧ Dp K H z c ∧ Dp K H u d := by
  cases h with
  | cons h1 h =>
    cases h with
    | cons h2 h =>
      cases h with
      | cons h3 h =>
        cases h with
        | cons h4 h =>
          cases h
          exact ⟨_, _, _, _, rfl, h1, h2, h3, h4⟩
theorem dpa5 {H : Hp} {xs : List V} {a b c d e : PyData} (h : DpAll K H xs [a, b, c, d, e]) : ∃ x y z u w, xs = [x, y, z, u, w] ∧ Dp K H x a ∧ Dp K H y b ∧ Dp K H z c ∧ Dp K H u d ∧ Dp K H w e := by
  cases h with
  | cons h1 h =>
    obtain ⟨y, z, u, w, rfl, h2, h3, h4, h5⟩ := dpa4 h
    exact ⟨_, y, z, u, w, rfl, h1, h2, h3, h4, h5⟩
theorem words_not {most : Nat} {d : PyData} (h : ¬ kTup d = true) : words most d = false := by
  cases d <;> first | rfl | exact absurd rfl h
theorem lot_tup {many : Int} {d : PyData} (h : lot many d = true) : ∃ ds, d = .tuple ds := by
  cases d <;> first | exact ⟨_, rfl⟩ | cases h
theorem ok_packet (Z : Frees mg) (C : Consts mg) (D1 : Cal P w K mg base CX0 2 "is_within" ["thing", "least", "most"] (spWithin K)) (D2 : Cal P w K mg base CX0 3 "is_lot" ["thing", "many"] (spLot K)) (D : At K mg "is_packet_for" (topS 18)) :
    Cal P w K mg base CX0 4 "is_packet_for" ["lines", "most", "thing"] (spPacket K) :=
  cal_mk D (fun _ _ _ _ _ _ us hl => match us, hl with | [_, _, _], _ => rfl) fun f fd F => by
  refine F.ok scPacket (fun vs H Q E h => ?_) (fun cdv A outer s H vs Q E hr h => ?_)
  · obtain ⟨v, d, rfl, _⟩ := h
    rfl
  · obtain ⟨v, d, rfl, hd, q⟩ := h
    refine ⟨_, pss_cons (ps_if (PW.pt (pw_or (pt_not (pt_val (pe_isTup Z rfl rfl (pv 2)))) (pw_or1 (pt_cmpR op_ne (pe_callB call_len_seq (by rfl) Z.len PySem.boot_len (pa_cons (pv 2) pa_nil)) pe_int (nomark _))))) (pss_one (ps_ret pe_bl)) pss_nil)
      (pss_cons (ps_asg (pv 2) (pg_tup (by rfl) (pgs_cons (pg_name (i := 3) scPacket.nd rfl (.inl rfl)) (pgs_cons (pg_name (i := 4) scPacket.nd rfl (.inl rfl)) (pgs_cons (pg_name (i := 5) scPacket.nd rfl (.inl rfl)) (pgs_cons (pg_name (i := 6) scPacket.nd rfl (.inl rfl)) pgs_nil))))))
      (pss_cons (ps_if (PW.pt (pw_or (pt_not (pt_val (pe_cal D1 hr (by decide) rfl (pa_cons (pv 3) (pa_cons pe_int (pa_cons (pe_gi C.stream rfl) pa_nil))))))
        (pw_or1 (pt_not (pt_val (pe_cal D1 hr (by decide) rfl (pa_cons (pv 4) (pa_cons pe_int (pa_cons (pe_gi C.kind rfl) pa_nil))))))))) (pss_one (ps_ret pe_bl)) pss_nil)
      (pss_cons (ps_if (PW.pt (pw_or (pt_not (pt_val (pe_cal D2 hr (by decide) rfl (pa_cons (pv 5) (pa_cons (pv 0) pa_nil)))))
        (pw_or1 (pt_not (pt_chain op_le op_le pe_int (pe_callB call_len_seq (by rfl) Z.len PySem.boot_len (pa_cons (pv 5) pa_nil)) (pv 1)))))) (pss_one (ps_ret pe_bl)) pss_nil)
      (pss_cons (ps_if (PW.pt (pw_or (pt_not (pt_val (pe_isTup Z rfl rfl (pv 6))))
        (pw_or1 (pt_not (pt_chain op_le op_le pe_int (pe_callB call_len_seq (by rfl) Z.len PySem.boot_len (pa_cons (pv 6) pa_nil)) (pe_gi C.words rfl)))))) (pss_one (ps_ret pe_bl)) pss_nil)
      (pss_one (ps_ret (pe_all (wIn 0 255) Z rfl scPacket.nd rfl (pv 6) mono_var (blkOk_by (own := [("word", 7)]) (N := ["lines", "most", "thing", "stream", "kind", "outs", "words", "word"]) (sc := defScope (topS 18)) (by decide +kernel))
        (fun _ _ _ _ _ => pg_name (i := 7) scPacket.nd rfl (Or.inl rfl)) (fun _ _ _ _ _ => pe_cal D1 hr (by decide) rfl (pa_cons (pv 7) (pa_cons pe_int (pa_cons (pe_gi C.word rfl) pa_nil))))))))))), ?_⟩
    have no : packet d = false → Q (.bl false) H := fun e => by
      have z := q H (Same.refl H)
      rw [e] at z
      exact z
    refine ⟨v, rfl, v, .ty "tuple", _, _, _, rfl, .ty "tuple", dp_ty hd, ki_tup d, _, rfl, ite2 (fun c => ?_) (fun c => ?_)⟩
    · exact no (packet_not (by rw [nt c]; exact Bool.false_ne_true))
    · obtain ⟨ds, rfl⟩ := kTup_tup (nf c)
      obtain ⟨a, xs, rfl, ht, ha⟩ := dp_tup hd
      have hl := dpa_len ha
      refine ⟨.ref a, rfl, a, xs, rfl, .inr ht, rfl, _, rfl, ite2 (fun c1 => ?_) (fun c1 => ?_)⟩
      · refine no (packet_len fun z => ?_)
        rw [hl, z] at c1
        cases c1
      · have l4 : ds.length = 4 := by
          have z := of_decide_eq_true (nf c1)
          have z2 := V.int.inj z
          omega
        obtain ⟨sd, kd, od, wd, rfl⟩ := four l4
        obtain ⟨x, y, z, u, rfl, h1, h2, h3, h4⟩ := dpa4 ha
        have e : packet (.tuple [sd, kd, od, wd]) = (wIn 0 99 sd && (wIn 0 7 kd && (lot 12 od && ((decide (1 ≤ size od) && decide (size od ≤ 3)) && words 40 wd)))) := rfl
        rw [e] at q no
        refine ⟨.ref a, rfl, a, [x, y, z, u], rfl, ht, rfl, x, _, rfl, y, _, rfl, z, _, rfl, u, _, rfl, rfl, ?_⟩
        refine ⟨x, rfl, x, sd, 0, 99, rfl, h1, _, rfl, ite2 (fun c2 => ?_) (fun c2 => ?_)⟩
        · exact no (by rw [nt c2, Bool.false_and])
        · rw [nf c2, Bool.true_and] at q no
          refine ⟨y, rfl, y, kd, 0, 7, rfl, h2, _, rfl, ite2 (fun c3 => ?_) (fun c3 => ?_)⟩
          · exact no (by rw [nt c3, Bool.false_and])
          · rw [nf c3, Bool.true_and] at q no
            refine ⟨z, rfl, .int 12, rfl, z, od, 12, rfl, h3, _, rfl, ite2 (fun c4 => ?_) (fun c4 => ?_)⟩
            · exact no (by rw [nt c4, Bool.false_and])
            · rw [nf c4, Bool.true_and] at q no
              obtain ⟨os, rfl⟩ := lot_tup (nf c4)
              obtain ⟨b, ys, rfl, ht3, ha3⟩ := dp_tup h3
              have hl3 := dpa_len ha3
              have sz : size (.tuple os) = ys.length := hl3.symm
              rw [sz] at q no
              refine ⟨.ref b, rfl, b, ys, rfl, .inr ht3, 1, _, rfl, rfl, _, rfl, ite2 (fun c5 => ?_) (fun c5 => ?_)⟩
              · have g1 : 1 ≤ ys.length := by have := of_decide_eq_true c5; omega
                rw [decide_eq_true g1, Bool.true_and] at q no
                refine ⟨.int 3, rfl, _, 3, rfl, rfl, _, rfl, ite2 (fun c6 => ?_) (fun c6 => ?_)⟩
                · refine no ?_
                  have g2 : ¬ ys.length ≤ 3 := by have := of_decide_eq_false (nt c6); omega
                  rw [decide_eq_false g2, Bool.false_and]
                · have g2 : ys.length ≤ 3 := by have := of_decide_eq_true (nf c6); omega
                  rw [decide_eq_true g2, Bool.true_and] at q no
                  refine ⟨u, rfl, u, .ty "tuple", _, _, _, rfl, .ty "tuple", dp_ty h4, ki_tup wd, _, rfl, ite2 (fun c7 => ?_) (fun c7 => ?_)⟩
                  · exact no (words_not (by rw [nt c7]; exact Bool.false_ne_true))
                  · obtain ⟨ws, rfl⟩ := kTup_tup (nf c7)
                    obtain ⟨b4, zs, rfl, ht4, ha4⟩ := dp_tup h4
                    have hl4 := dpa_len ha4
                    have ew : words 40 (.tuple ws) = ((decide (1 ≤ ws.length) && decide (ws.length ≤ 40)) && ws.all (wIn 0 255)) := rfl
                    rw [ew] at q no
                    refine ⟨.ref b4, rfl, b4, zs, rfl, .inr ht4, 1, _, rfl, rfl, _, rfl, ite2 (fun c8 => ?_) (fun c8 => ?_)⟩
                    · have g3 : 1 ≤ ws.length := by have := of_decide_eq_true c8; omega
                      rw [decide_eq_true g3, Bool.true_and] at q no
                      refine ⟨_, 40, rfl, rfl, _, rfl, ite2 (fun c9 => ?_) (fun c9 => ?_)⟩
                      · refine no ?_
                        have g4 : ¬ ws.length ≤ 40 := by have := of_decide_eq_false (nt c9); omega
                        rw [decide_eq_false g4, Bool.false_and]
                      · have g4 : ws.length ≤ 40 := by have := of_decide_eq_true (nf c9); omega
                        rw [decide_eq_true g4, Bool.true_and] at q
                        refine ⟨.ref b4, rfl, b4, zs, ws, rfl, ht4, ha4, by omega, fun x => rfl, fun x d H2 Q2 s2 hx q2 => ⟨x, rfl, x, d, 0, 255, rfl, hx, q2⟩, fun H' s' => q H' s'⟩
                    · refine ⟨_, rfl, no ?_⟩
                      have g3 : ¬ 1 ≤ ws.length := by have := of_decide_eq_false (nd c8); omega
                      rw [decide_eq_false g3, Bool.false_and, Bool.false_and]
              · refine ⟨_, rfl, no ?_⟩
                have g3 : ¬ 1 ≤ ys.length := by have := of_decide_eq_false (nd c5); omega
                rw [decide_eq_false g3, Bool.false_and, Bool.false_and]
end
end Kx

namespace Kx
open PySem PySem.Spec PyProof.Rows L2
section
variable {P : Program} {w : World} {K : PySem.W.Frag} {mg : Str → Option Value} {base : Heap}

/-! parts_of -/
theorem scParts : FnScope ["packet", "words", "at"] ["packet"] (defScope (topS 19)) := ⟨rfl, rfl, rfl, by decide +kernel, rfl, by decide +kernel, by decide +kernel⟩
def spParts (K : PySem.W.Frag) : Sp := fun vs H Q _ => ∃ a xs b ws, vs = [.ref a] ∧ SqT K H a xs ∧ xs[3]? = some (.ref b) ∧ SqT K H b ws ∧ ws.length ≤ 40 ∧
  ∀ H' p us, Same H H' → H' p = some (.lst us) → us.length = (ws.length + 3) / 4 → Q (.ref p) H'
theorem rg4 (n : Nat) (h : n ≤ 40) : RgC 0 n 4 ((n + 3) / 4) := by
  have z : ∀ m : _root_.Fin 41, Builtin.Range.small 0 ((m.val : Nat) : Int) 4 = true ∧ Builtin.Range.rangeSize 0 ((m.val : Nat) : Int) 4 = (((m.val + 3) / 4 : Nat) : Int) := by decide +kernel
  obtain ⟨z1, z2⟩ := z ⟨n, by omega⟩
  exact ⟨by decide, by decide, z1, z2⟩
theorem ok_parts (Z : Frees mg) (C : Consts mg) (D : At K mg "parts_of" (topS 19)) : Cal P w K mg base CX0 1 "parts_of" ["packet"] (spParts K) :=
  cal_mk D (fun _ _ _ _ _ _ us hl => match us, hl with | [_], _ => rfl) fun f fd F => by
  refine F.ok scParts (fun vs H Q E h => ?_) (fun cdv A outer s H vs Q E hr h => ?_)
  · obtain ⟨a, xs, b, ws, rfl, _⟩ := h
    rfl
  · obtain ⟨a, xs, b, ws, rfl, ht, h3, hb, hz, q⟩ := h
    refine ⟨_, pss_cons (ps_set (i := 1) scParts.nd rfl (Or.inr rfl) (pe_ix ix_tup (pv 0) pe_int (fun _ _ => rfl)))
      (pss_one (ps_ret (pe_lc (own := [("at", 2)]) (g := gName 2) (tt := tYes) rfl scParts.nd
        (pi_range3 rfl Z.range (pa_cons pe_int (pa_cons (pe_callB call_len_seq (by rfl) Z.len PySem.boot_len (pa_cons (pv 1) pa_nil)) (pa_cons (pe_gi C.cell rfl) pa_nil))))
        (blkOk_by (own := [("at", 2)]) (N := ["packet", "words", "at"]) (sc := defScope (topS 19)) (by decide +kernel)) (fun _ _ _ _ _ => pg_name (i := 2) scParts.nd rfl (Or.inl rfl)) (fun _ _ _ _ _ => pts_nil)
        (fun _ _ _ _ _ => pe_slice (r := rSlA K) sl_tupA (pv 1) (po_some (pv 2)) (po_some (pe_op op_add (pv 2) (pe_gi C.cell rfl))))))), ?_⟩
    refine ⟨.ref a, rfl, a, xs, 3, .ref b, rfl, rfl, ht, atI_nat (j := 3) h3, .ref b, rfl, b, ws, rfl, .inr hb, 0, _, 4, (ws.length + 3) / 4, rfl, rg4 _ hz, fun D nD => ?_⟩
    refine lc_it (walk_rangeC (lo := 0) (c := 4) (n := (ws.length + 3) / 4)) (fun i H' => Same H H' ∧ ∃ acc, H' D = some (.lst acc) ∧ acc.length = i) ⟨same_new nD, [], upd_same, rfl⟩ (fun _ _ _ _ => trivial) (fun i x H1 H' hi p y => ?_) (fun H' p => ?_)
    · obtain ⟨rfl, rfl⟩ := y
      obtain ⟨s1, acc, eD, el⟩ := p
      have hb1 : SqT K H' b ws := seqT_up s1 hb
      refine ⟨rfl, ?_⟩
      have fin : ∀ v H2, Same H' H2 → ∃ acc, H2 D = some (.lst acc) ∧ acc.length < sizeLine ∧ Same H (upd H2 D (.lst (acc ++ [v]))) ∧ ∃ acc', (upd H2 D (.lst (acc ++ [v]))) D = some (.lst acc') ∧ acc'.length = i + 1 := fun v H2 s2 => by
        refine ⟨acc, s2 _ _ eD, small_lt (by omega), fun c o e => ?_, _, upd_same, by rw [List.length_append, el]; rfl⟩
        rw [upd_ne (ne_of_none e nD)]
        exact s2 _ _ (s1 _ _ e)
      refine ⟨.ref b, rfl, _, rfl, _, rfl, _, rfl, _, 4, rfl, rfl, _, rfl, b, ws, rfl, hb1, fun _ => fin _ _ (Same.refl _), fun _ p hp => fin _ _ (same_new hp)⟩
    · obtain ⟨s1, acc, eD, el⟩ := p
      exact q H' D acc s1 eD el

/-! cells_in -/
theorem scCells : FnScope ["packet"] ["packet"] (defScope (topS 20)) := ⟨rfl, rfl, rfl, by decide +kernel, rfl, by decide +kernel, by decide +kernel⟩
def spCells (K : PySem.W.Frag) (C : Addr) : Sp := fun vs H Q E => ∃ v d, vs = [v] ∧ Dp K H v d ∧ (packet d = true → ∀ H', Same H H' → Q (.int (cellsOf d : Nat)) H') ∧ (packet d = false → ∀ H', Same H H' → E (.ref C) none H')
structure ExcTxt (K : PySem.W.Frag) (mg : Str → Option Value) (C : Addr) : Prop where
  g : mg "NoPacket" = some (.ref C)
  x : PySem.W.excIn K C [.type "ValueError", .type "Exception", .type "BaseException", .type "object"] "ValueError.__new__" = true
  k : PySem.W.keepIn K (.ref C) = true
  b : PySem.W.subIn K (.ref C) (.type "BaseException") = some true
  t : PySem.W.typeIn K (.ref C) = some (.type "type")
theorem packet_parts {d : PyData} (h : packet d = true) : ∃ s k o ws, d = .tuple [s, k, o, .tuple ws] ∧ 1 ≤ ws.length ∧ ws.length ≤ 40 := by
  cases d with
  | tuple ds =>
    by_cases c : ds.length = 4
    · obtain ⟨s, k, o, w, rfl⟩ := four c
      have e : (wIn 0 99 s && (wIn 0 7 k && (lot 12 o && ((decide (1 ≤ size o) && decide (size o ≤ 3)) && words 40 w)))) = true := h
      simp only [Bool.and_eq_true] at e
      obtain ⟨_, _, _, _, ew⟩ := e
      cases w with
      | tuple ws =>
        have e2 : ((decide (1 ≤ ws.length) && decide (ws.length ≤ 40)) && ws.all (wIn 0 255)) = true := ew
        simp only [Bool.and_eq_true, decide_eq_true_eq] at e2
        exact ⟨s, k, o, ws, rfl, e2.1.1, e2.1.2⟩
      | _ => cases ew
    · rw [packet_len c] at h
      cases h
  | _ => cases h
theorem ok_cells {NP : Addr} (Z : Frees mg) (C : Consts mg) (T : ExcTxt K mg NP) (D1 : Cal P w K mg base CX0 4 "is_packet_for" ["lines", "most", "thing"] (spPacket K)) (D2 : Cal P w K mg base CX0 1 "parts_of" ["packet"] (spParts K)) (D : At K mg "cells_in" (topS 20)) :
    Cal P w K mg base (L2.CX P w) 5 "cells_in" ["packet"] (spCells K NP) :=
  cal_mk D (fun _ _ _ _ _ _ us hl => match us, hl with | [_], _ => rfl) fun f fd F => by
  refine F.okX scCells (fun vs H Q E h => ?_) (fun cdv A outer s H vs Q E hr h => ?_)
  · obtain ⟨v, d, rfl, _⟩ := h
    rfl
  · obtain ⟨v, d, rfl, hd, q, qe⟩ := h
    refine ⟨_, pss_cons (ps_if (pt_not (pt_val (pe_cal D1 hr (by decide) rfl (pa_cons (pe_gi C.outs rfl) (pa_cons (pe_gi C.copies rfl) (pa_cons (pv 0) pa_nil))))))
        (pss_one (ps_raise rfl (takes_of rfl rfl rfl rfl) (pmk_own0 PySem.F.excBase_ValueError T.x T.g T.k (raises_own T.b T.t) rfl))) pss_nil)
      (pss_one (ps_ret (pe_callB call_len_seq (by rfl) Z.len PySem.boot_len (pa_cons (pe_cal D2 hr (by decide) rfl (pa_cons (pv 0) pa_nil)) pa_nil)))), ?_⟩
    refine ⟨v, rfl, v, d, rfl, hd, fun H' s' => ⟨_, rfl, ite2 (fun c => ?_) (fun c => ?_)⟩⟩
    · exact qe (nt c) H' s'
    · obtain ⟨s, k, o, ws, rfl, g1, g2⟩ := packet_parts (nf c)
      obtain ⟨a, xs, rfl, ht, ha⟩ := dp_tup (dp_up s' _ _ hd)
      obtain ⟨x, y, z, u, rfl, h1, h2, h3, h4⟩ := dpa4 ha
      obtain ⟨b, zs, rfl, ht4, ha4⟩ := dp_tup h4
      have hl := dpa_len ha4
      refine ⟨.ref a, rfl, a, _, b, zs, rfl, ht, rfl, ht4, by omega, fun H2 p us s2 ep el => ⟨p, us, rfl, .inl (SqL.of ep), ?_⟩⟩
      have e : cellsOf (.tuple [s, k, o, .tuple ws]) = us.length := by rw [el, hl]; rfl
      have z := q (nf c) H2 (s'.trans s2)
      rw [e] at z
      exact z

/-! check_of -/
theorem scCheck : FnScope ["packet", "part", "left", "words", "total", "place", "word"] ["packet", "part", "left", "words"] (defScope (topS 21)) := ⟨rfl, rfl, rfl, by decide +kernel, rfl, by decide +kernel, by decide +kernel⟩
def spCheck (K : PySem.W.Frag) : Sp := fun vs H Q _ => ∃ (p q l : Int) (a : Addr) (ws : List Int), vs = [.int p, .int q, .int l, .ref a] ∧ SqT K H a (ws.map V.int) ∧ ws.length ≤ 100000 ∧ ∀ H', Same H H' → Q (.int (check p q l ws)) H'
theorem walk_enumT {a : Addr} {xs : List V} : Walk (Iet K a) xs.length (fun H => SqT K H a xs) (YPair (fun i => some (.int (i : Nat))) (fun i => xs[i]?)) where
  goes := fun i H hi h => ⟨xs, xs[i], h, List.getElem?_eq_getElem hi⟩
  stops := fun H h => ⟨xs, h, rfl⟩
  yields := fun i H x H' _ h ⟨T, y, e1, e2, e3, e4⟩ => ⟨T, .int (i : Nat), y, e1, e2, e3, rfl, e4 xs h⟩
theorem ok_check (Z : Frees mg) (C : Consts mg) (D : At K mg "check_of" (topS 21)) : Cal P w K mg base CX0 1 "check_of" ["packet", "part", "left", "words"] (spCheck K) :=
  cal_mk D (fun _ _ _ _ _ _ us hl => match us, hl with | [_, _, _, _], _ => rfl) fun f fd F => by
  refine F.ok scCheck (fun vs H Q E h => ?_) (fun cdv A outer s H vs Q E hr h => ?_)
  · obtain ⟨p, q, l, a, ws, rfl, _⟩ := h
    rfl
  · obtain ⟨p, q, l, a, ws, rfl, ht, hz, fin⟩ := h
    refine ⟨_, pss_cons (ps_set (i := 4) scCheck.nd rfl (Or.inl rfl) (pe_callB (cr_sum rfl) (by rfl) Z.sum (by decide +kernel) (pa_cons (pe_lc (own := [("place", 5), ("word", 6)]) (g := gTup K 2 (gCons (gName 5) (gCons (gName 6) gNil))) (tt := tYes) rfl scCheck.nd
        (pi_enumT (by rfl) Z.enum (pa_cons (pv 3) pa_nil)) (blkOk_by (own := [("place", 5), ("word", 6)]) (N := ["packet", "part", "left", "words", "total", "place", "word"]) (sc := defScope (topS 21)) (by decide +kernel))
        (fun _ _ _ _ _ => pg_tup rfl (pgs_cons (pg_name (i := 5) scCheck.nd rfl (Or.inl rfl)) (pgs_cons (pg_name (i := 6) scCheck.nd rfl (Or.inl rfl)) pgs_nil))) (fun _ _ _ _ _ => pts_nil)
        (fun _ _ _ _ _ => pe_op op_mul (pe_op op_add (pv 5) pe_int) (pv 6))) pa_nil)))
      (pss_one (ps_ret (pe_op op_mod (pe_op op_add (pe_op op_add (pe_op op_add (pv 4) (pe_op op_mul pe_int (pv 1))) (pe_op op_mul pe_int (pv 2))) (pe_op op_mul pe_int (pv 0))) (pe_gi C.round rfl)))), ?_⟩
    refine ⟨.ref a, rfl, a, ws.map V.int, rfl, ht, fun D nD => ?_⟩
    refine lc_it (walk_enumT (a := a) (xs := ws.map V.int)) (fun i H' => Same H H' ∧ H' D = some (.lst ((wl ws i).map V.int))) ⟨same_new nD, upd_same⟩ (fun i H' _ pp => seqT_up pp.1 ht) (fun i x H1 H' hi pp y => ?_) (fun H' pp => ?_)
    · obtain ⟨s1, eD⟩ := pp
      obtain ⟨T, u1, u2, rfl, nT, rfl, e1, e2⟩ := y
      have hlt : i < ws.length := by rw [List.length_map] at hi; exact hi
      have g1 : u1 = .int (i : Nat) := (Option.some.inj e1).symm
      have g2 : u2 = .int (ws.getD i 0) := by
        have z : (ws.map V.int)[i]? = some u2 := e2
        rw [List.getElem?_map, List.getElem?_eq_getElem hlt] at z
        rw [List.getD_eq_getElem?_getD, List.getElem?_eq_getElem hlt]
        exact (Option.some.inj z).symm
      subst g1 g2
      refine ⟨T, _, rfl, SqT.of upd_same, rfl, _, _, rfl, _, _, rfl, rfl, rfl, ?_⟩
      refine ⟨_, rfl, _, 1, rfl, rfl, _, rfl, _, _, rfl, rfl, .inl (by constructor <;> omega), (wl ws i).map V.int, ?_, ?_, fun b o e => ?_, ?_⟩
      · rw [upd_ne (ne_of_none eD nT)]
        exact eD
      · rw [List.length_map, wl_len]
        exact small_lt (by omega)
      · rw [upd_ne (ne_of_none e nD), upd_ne (ne_of_none (s1 _ _ e) nT)]
        exact s1 _ _ e
      · rw [upd_same, wl_succ, List.map_append]
        rfl
    · obtain ⟨s1, eD⟩ := pp
      rw [List.length_map] at eD
      refine ⟨D, wl ws ws.length, rfl, SqL.of eD, ?_⟩
      refine ⟨_, rfl, .int q, rfl, 7, q, rfl, rfl, .inl (by constructor <;> decide), _, _, rfl, rfl, .int l, rfl, 11, l, rfl, rfl, .inl (by constructor <;> decide), _, _, rfl, rfl, .int p, rfl, 13, p, rfl, rfl, .inl (by constructor <;> decide), _, _, rfl, rfl, _, 251, rfl, rfl, (by show (0 : Int) < 251; decide), ?_⟩
      exact fin H' s1
end
end Kx

namespace Kx
open PySem PySem.Spec PyProof.Rows L2
section
variable {P : Program} {w : World} {K : PySem.W.Frag} {mg : Str → Option Value} {base : Heap}

theorem wIn_int {lo hi : Int} {d : PyData} (h : wIn lo hi d = true) : ∃ i, d = .int i ∧ lo ≤ i ∧ i ≤ hi := by
  cases d with
  | int i =>
    have e : (decide (lo ≤ i) && decide (i ≤ hi)) = true := h
    simp only [Bool.and_eq_true, decide_eq_true_eq] at e
    exact ⟨i, rfl, e.1, e.2⟩
  | _ => cases h
theorem all_ints {lo hi : Int} : ∀ {ws : List PyData}, ws.all (wIn lo hi) = true → ws = (ws.map intOf).map PyData.int
  | [], _ => rfl
  | d :: r, h => by
    rw [List.all_cons, Bool.and_eq_true] at h
    obtain ⟨i, rfl, _⟩ := wIn_int h.1
    have z := all_ints h.2
    show PyData.int i :: r = PyData.int i :: (r.map intOf).map PyData.int
    rw [← z]
theorem dpa_vints {H : Hp} : ∀ {ns : List Int} {xs : List V}, DpAll K H xs (ns.map PyData.int) → xs = ns.map V.int
  | [], _, h => by cases h; rfl
  | n :: r, _, h => by
    cases h with
    | cons h1 h2 =>
      rw [dp_int h1, dpa_vints h2]
      rfl
theorem ints_back (ns : List Int) : intsOf (.tuple (ns.map PyData.int)) = ns := by
  show (ns.map PyData.int).map intOf = ns
  rw [List.map_map]
  exact (List.map_congr_left fun _ _ => rfl).trans (List.map_id _)
theorem load_not {d : PyData} (h : ¬ kTup d = true) : load d = false := by
  cases d <;> first | rfl | exact absurd rfl h
theorem load_len {ds : List PyData} (h : ds.length ≠ 5) : load (.tuple ds) = false := by
  match ds, h with
  | [], _ => rfl
  | [_], _ => rfl
  | [_, _], _ => rfl
  | [_, _, _], _ => rfl
  | [_, _, _, _], _ => rfl
  | [_, _, _, _, _], h => exact absurd rfl h
  | _ :: _ :: _ :: _ :: _ :: _ :: _, _ => rfl

/-! is_load -/
theorem scLoad : FnScope ["thing", "packet", "part", "left", "words", "check", "word"] ["thing"] (defScope (topS 22)) := ⟨rfl, rfl, rfl, by decide +kernel, rfl, by decide +kernel, by decide +kernel⟩
def spLoad (K : PySem.W.Frag) : Sp := fun vs H Q _ => ∃ v d, vs = [v] ∧ Dp K H v d ∧ ∀ H', Same H H' → Q (.bl (load d)) H'
theorem ok_load (Z : Frees mg) (C : Consts mg) (D1 : Cal P w K mg base CX0 2 "is_within" ["thing", "least", "most"] (spWithin K)) (D2 : Cal P w K mg base CX0 1 "check_of" ["packet", "part", "left", "words"] (spCheck K)) (D : At K mg "is_load" (topS 22)) :
    Cal P w K mg base CX0 3 "is_load" ["thing"] (spLoad K) :=
  cal_mk D (fun _ _ _ _ _ _ us hl => match us, hl with | [_], _ => rfl) fun f fd F => by
  refine F.ok scLoad (fun vs H Q E h => ?_) (fun cdv A outer s H vs Q E hr h => ?_)
  · obtain ⟨v, d, rfl, _⟩ := h
    rfl
  · obtain ⟨v, d, rfl, hd, q⟩ := h
    refine ⟨_, pss_cons (ps_if (PW.pt (pw_or (pt_not (pt_val (pe_isTup Z rfl rfl (pv 0)))) (pw_or1 (pt_cmpR op_ne (pe_callB call_len_seq (by rfl) Z.len PySem.boot_len (pa_cons (pv 0) pa_nil)) pe_int (nomark _))))) (pss_one (ps_ret pe_bl)) pss_nil)
      (pss_cons (ps_asg (pv 0) (pg_tup (by rfl) (pgs_cons (pg_name (i := 1) scLoad.nd rfl (.inl rfl)) (pgs_cons (pg_name (i := 2) scLoad.nd rfl (.inl rfl)) (pgs_cons (pg_name (i := 3) scLoad.nd rfl (.inl rfl)) (pgs_cons (pg_name (i := 4) scLoad.nd rfl (.inl rfl)) (pgs_cons (pg_name (i := 5) scLoad.nd rfl (.inl rfl)) pgs_nil)))))))
      (pss_cons (ps_if (PW.pt (pw_or (pt_not (pt_val (pe_cal D1 hr (by decide) rfl (pa_cons (pv 1) (pa_cons pe_int (pa_cons (pe_gi C.number rfl) pa_nil))))))
        (pw_or1 (pt_not (pt_val (pe_cal D1 hr (by decide) rfl (pa_cons (pv 2) (pa_cons pe_int (pa_cons (pe_op op_sub (pe_op op_fdiv (pe_gi C.words rfl) (pe_gi C.cell rfl)) pe_int) pa_nil))))))))) (pss_one (ps_ret pe_bl)) pss_nil)
      (pss_cons (ps_if (pt_not (pt_val (pe_cal D1 hr (by decide) rfl (pa_cons (pv 3) (pa_cons pe_int (pa_cons (pe_op op_sub (pe_op op_sub (pe_op op_fdiv (pe_gi C.words rfl) (pe_gi C.cell rfl)) pe_int) (pv 2)) pa_nil)))))) (pss_one (ps_ret pe_bl)) pss_nil)
      (pss_cons (ps_if (PW.pt (pw_or (pt_not (pt_val (pe_isTup Z rfl rfl (pv 4))))
        (pw_or (pt_not (pt_chain op_le op_le pe_int (pe_callB call_len_seq (by rfl) Z.len PySem.boot_len (pa_cons (pv 4) pa_nil)) (pe_gi C.cell rfl)))
        (pw_or1 (PW.pt (pw_and (pt_cmpR op_gt (pv 3) pe_int (nomark _)) (pw_and1 (pt_cmpR op_lt (pe_callB call_len_seq (by rfl) Z.len PySem.boot_len (pa_cons (pv 4) pa_nil)) (pe_gi C.cell rfl) (nomark _))))))))) (pss_one (ps_ret pe_bl)) pss_nil)
      (pss_cons (ps_if (pt_not (pt_val (pe_all (wIn 0 255) Z rfl scLoad.nd rfl (pv 4) mono_var (blkOk_by (own := [("word", 6)]) (N := ["thing", "packet", "part", "left", "words", "check", "word"]) (sc := defScope (topS 22)) (by decide +kernel))
        (fun _ _ _ _ _ => pg_name (i := 6) scLoad.nd rfl (Or.inl rfl)) (fun _ _ _ _ _ => pe_cal D1 hr (by decide) rfl (pa_cons (pv 6) (pa_cons pe_int (pa_cons (pe_gi C.word rfl) pa_nil))))))) (pss_one (ps_ret pe_bl)) pss_nil)
      (pss_one (ps_ret (pe_and (pe_cal D1 hr (by decide) rfl (pa_cons (pv 5) (pa_cons pe_int (pa_cons (pe_op op_sub (pe_gi C.round rfl) pe_int) pa_nil))))
        (pe_one (pe_cmpR op_eq (pv 5) (pe_cal D2 hr (by decide) rfl (pa_cons (pv 1) (pa_cons (pv 2) (pa_cons (pv 3) (pa_cons (pv 4) pa_nil))))) (nomark _))))))))))), ?_⟩
    have no : load d = false → ∀ H', Same H H' → Q (.bl false) H' := fun e H' s' => by
      have z := q H' s'
      rw [e] at z
      exact z
    have no0 : load d = false → Q (.bl false) H := fun e => no e H (Same.refl H)
    refine ⟨v, rfl, v, .ty "tuple", _, _, _, rfl, .ty "tuple", dp_ty hd, ki_tup d, _, rfl, ite2 (fun c => ?_) (fun c => ?_)⟩
    · exact no0 (load_not (by rw [nt c]; exact Bool.false_ne_true))
    obtain ⟨ds, rfl⟩ := kTup_tup (nf c)
    obtain ⟨a, xs, rfl, ht, ha⟩ := dp_tup hd
    have hl := dpa_len ha
    refine ⟨.ref a, rfl, a, xs, rfl, .inr ht, rfl, _, rfl, ite2 (fun c1 => ?_) (fun c1 => ?_)⟩
    · refine no0 (load_len fun z => ?_)
      rw [hl, z] at c1
      cases c1
    have l5 : ds.length = 5 := by
      have z := of_decide_eq_true (nf c1)
      have z2 := V.int.inj z
      omega
    obtain ⟨pd, qd, ld, wd, cd, rfl⟩ := five l5
    obtain ⟨x, y, z, u, t, rfl, h1, h2, h3, h4, h5⟩ := dpa5 ha
    have e : load (.tuple [pd, qd, ld, wd, cd]) = (wIn 0 1000000000 pd && (wIn 0 9 qd && (wIn 0 (9 - intOf qd) ld && (kTup wd && (decide (1 ≤ size wd) && (decide (size wd ≤ 4) && ((decide (intOf ld ≤ 0) || decide (4 ≤ size wd)) && (wordsIn wd && (wIn 0 250 cd && decide (intOf cd = check (intOf pd) (intOf qd) (intOf ld) (intsOf wd))))))))))) := rfl
    rw [e] at q no no0
    refine ⟨.ref a, rfl, a, _, rfl, ht, rfl, x, _, rfl, y, _, rfl, z, _, rfl, u, _, rfl, t, _, rfl, rfl, ?_⟩
    refine ⟨x, rfl, x, pd, 0, 1000000000, rfl, h1, _, rfl, ite2 (fun c2 => ?_) (fun c2 => ?_)⟩
    · exact no0 (by rw [nt c2, Bool.false_and])
    rw [nf c2, Bool.true_and] at q no no0
    refine ⟨y, rfl, 40, 4, rfl, rfl, ⟨by decide, by decide⟩, _, 1, rfl, rfl, y, qd, 0, 9, rfl, h2, _, rfl, ite2 (fun c3 => ?_) (fun c3 => ?_)⟩
    · exact no0 (by rw [nt c3, Bool.false_and])
    rw [nf c3, Bool.true_and] at q no no0
    obtain ⟨pi, rfl, _⟩ := wIn_int (nf c2)
    obtain ⟨qi, rfl, hq0, hq9⟩ := wIn_int (nf c3)
    have e1 := dp_int h1
    have e2 := dp_int h2
    subst e1 e2
    refine ⟨z, rfl, 40, 4, rfl, rfl, ⟨by decide, by decide⟩, _, 1, rfl, rfl, .int qi, rfl, _, qi, rfl, rfl, z, ld, 0, 9 - qi, rfl, h3, _, rfl, ite2 (fun c4 => ?_) (fun c4 => ?_)⟩
    · exact no0 (by rw [show intOf (.int qi) = qi from rfl, nt c4, Bool.false_and])
    rw [show intOf (.int qi) = qi from rfl, nf c4, Bool.true_and] at q no no0
    obtain ⟨li, rfl, hl0, hl9⟩ := wIn_int (nf c4)
    have e3 := dp_int h3
    subst e3
    refine ⟨u, rfl, u, .ty "tuple", _, _, _, rfl, .ty "tuple", dp_ty h4, ki_tup wd, _, rfl, ite2 (fun c5 => ?_) (fun c5 => ?_)⟩
    · exact no0 (by rw [nt c5, Bool.false_and])
    rw [nf c5, Bool.true_and] at q no no0
    obtain ⟨ws, rfl⟩ := kTup_tup (nf c5)
    obtain ⟨b, zs, rfl, ht4, ha4⟩ := dp_tup h4
    have hl4 := dpa_len ha4
    have sz : size (.tuple ws) = zs.length := hl4.symm
    rw [sz] at q no no0
    refine ⟨.ref b, rfl, b, zs, rfl, .inr ht4, 1, _, rfl, rfl, _, rfl, ite2 (fun c6 => ?_) (fun c6 => ?_)⟩
    rotate_left
    · refine ⟨_, rfl, no0 ?_⟩
      have g3 : ¬ 1 ≤ zs.length := by have := of_decide_eq_false (nd c6); omega
      rw [decide_eq_false g3, Bool.false_and]
    have g1 : 1 ≤ zs.length := by have := of_decide_eq_true c6; omega
    rw [decide_eq_true g1, Bool.true_and] at q no no0
    refine ⟨_, 4, rfl, rfl, _, rfl, ite2 (fun c7 => ?_) (fun c7 => ?_)⟩
    · refine no0 ?_
      have g4 : ¬ zs.length ≤ 4 := by have := of_decide_eq_false (nt c7); omega
      rw [decide_eq_false g4, Bool.false_and]
    have g2 : zs.length ≤ 4 := by have := of_decide_eq_true (nf c7); omega
    rw [decide_eq_true g2, Bool.true_and] at q no no0
    refine ⟨.int li, rfl, li, 0, rfl, rfl, _, rfl, ite2 (fun c8 => ⟨.ref b, rfl, b, zs, rfl, .inr ht4, _, 4, rfl, rfl, _, rfl, ite2 (fun c9 => ?_) (fun c9 => ?_)⟩) (fun c8 => ?_)⟩
    · refine no0 ?_
      have z1 := of_decide_eq_true c8
      have z2 := of_decide_eq_true c9
      rw [show intOf (.int li) = li from rfl, decide_eq_false (show ¬ li ≤ 0 by omega), decide_eq_false (show ¬ 4 ≤ zs.length by omega)]
      rfl
    all_goals
      have g : (decide (li ≤ 0) || decide (4 ≤ zs.length)) = true := by
        first
          | (have z := of_decide_eq_false (nd c9); rw [decide_eq_true (show 4 ≤ zs.length by omega), Bool.or_true])
          | (have z := of_decide_eq_false (nd c8); rw [decide_eq_true (show li ≤ 0 by omega), Bool.true_or])
      rw [show intOf (.int li) = li from rfl, g, Bool.true_and] at q no
      refine ⟨.ref b, rfl, b, zs, ws, rfl, ht4, ha4, by omega, fun x => rfl, fun x d H2 Q2 s2 hx q2 => ⟨x, rfl, x, d, 0, 255, rfl, hx, q2⟩, fun H' s' => ⟨_, rfl, ite2 (fun c10 => ?_) (fun c10 => ?_)⟩⟩
      · exact no (by rw [show wordsIn (.tuple ws) = ws.all (wIn 0 255) from rfl, nt c10, Bool.false_and]) H' s'
      · rw [show wordsIn (.tuple ws) = ws.all (wIn 0 255) from rfl, nf c10, Bool.true_and] at q no
        obtain ⟨ns, rfl⟩ : ∃ ns : List Int, ws = ns.map PyData.int := ⟨_, all_ints (nf c10)⟩
        obtain rfl := dpa_vints ha4
        have hb : SqT K H' b (ns.map V.int) := seqT_up s' ht4
        refine ⟨t, rfl, 251, 1, rfl, rfl, t, cd, 0, 250, rfl, dp_up s' _ _ h5, _, rfl, ite2 (fun c11 => ?_) (fun c11 => ?_)⟩
        · obtain ⟨ci, rfl, _⟩ := wIn_int c11
          have e5 := dp_int h5
          subst e5
          refine ⟨.int ci, rfl, .int pi, rfl, .int qi, rfl, .int li, rfl, .ref b, rfl, pi, qi, li, b, ns, rfl, hb, ?_, fun H2 s2 => ⟨rfl, ?_⟩⟩
          · rw [List.length_map] at g2
            omega
          · have z := q H2 (s'.trans s2)
            rw [c11, Bool.true_and, ints_back] at z
            have eb : decide (V.int ci = V.int (check pi qi li ns)) = decide (intOf (.int ci) = check (intOf (.int pi)) (intOf (.int qi)) li ns) := by
              apply decide_eq_decide.mpr
              exact ⟨fun h => V.int.inj h, fun h => congrArg V.int h⟩
            rw [eb]
            exact z
        · exact no (by rw [nd c11, Bool.false_and]) H' s'
end
end Kx

namespace Kx
open PySem PySem.Spec PyProof.Rows L2
section
variable {P : Program} {w : World} {K : PySem.W.Frag} {mg : Str → Option Value} {base : Heap}

/-! the deck: its list at dk, the script's copy at q -/
def Dk (ns : List Int) (dk q : Addr) (H : Hp) : Prop := ∃ (i : Nat) (l t s : Int), H dk = some (.lst [.ref q, .int i, .int l, .int t, .int s]) ∧ q ≠ dk ∧ H q = some (.lst (ns.map V.int))
def Up (dk : Addr) (H H' : Hp) : Prop := ∀ p, p ≠ dk → H' p = H p
theorem Up.refl {dk : Addr} (H : Hp) : Up dk H H := fun _ _ => rfl
theorem Up.trans {dk : Addr} {H H1 H2 : Hp} (a : Up dk H H1) (b : Up dk H1 H2) : Up dk H H2 := fun p c => (b p c).trans (a p c)
theorem Up.upd {dk : Addr} {H : Hp} {o : HO} : Up dk H (upd H dk o) := fun p c => upd_ne c
theorem Up.sm {dk : Addr} {H H' : Hp} (u : Up dk H H') : Sm dk H H' := fun p o c e => (u p c).trans e
theorem Dk.some {ns : List Int} {dk q : Addr} {H : Hp} (d : Dk ns dk q H) : H dk ≠ none := by
  obtain ⟨i, l, t, s, e, _⟩ := d
  rw [e]
  exact fun z => nomatch z
theorem Dk.up {ns : List Int} {dk q : Addr} {H H' : Hp} (d : Dk ns dk q H) (s : Same H H') : Dk ns dk q H' := by
  obtain ⟨i, l, t, z, e, n, eq⟩ := d
  exact ⟨i, l, t, z, s _ _ e, n, s _ _ eq⟩
/-- what was free is neither -/
theorem Dk.off {ns : List Int} {dk q l : Addr} {H : Hp} (d : Dk ns dk q H) (h : H l = none) : l ≠ dk ∧ l ≠ q := by
  obtain ⟨_, _, _, _, e, _, eq⟩ := d
  exact ⟨(ne_of_none e h).symm, (ne_of_none eq h).symm⟩
theorem Dk.mut {ns : List Int} {dk q l : Addr} {H : Hp} {o : HO} (d : Dk ns dk q H) (h : l ≠ dk ∧ l ≠ q) : Dk ns dk q (upd H l o) := by
  obtain ⟨i, x, t, z, e, n, eq⟩ := d
  exact ⟨i, x, t, z, by rw [upd_ne h.1.symm]; exact e, n, by rw [upd_ne h.2.symm]; exact eq⟩
/-- an object that H does not know may change -/
theorem Sm.mut {dk l : Addr} {H H' : Hp} {o : HO} (s : Sm dk H H') (h : H l = none) : Sm dk H (upd H' l o) := fun p u c e => by
  rw [upd_ne (ne_of_none e h)]
  exact s p u c e

theorem scDeck : FnScope ["_law_script", "_law_seed", "_law_cell"] ["_law_script"] (defScope (topS 24)) := ⟨rfl, rfl, rfl, by decide +kernel, rfl, by decide +kernel, by decide +kernel⟩
def spDeck (K : PySem.W.Frag) : Sp := fun vs H Q _ => ∃ (a : Addr) (ns : List Int), vs = [.ref a] ∧ SqL K H a (ns.map V.int) ∧ ∀ dk q H', Dk ns dk q H' → Q (.ref dk) H'
theorem at_int {ns : List Int} {i : Nat} {y : V} (h : (ns.map V.int)[i]? = some y) : ∃ n, ns[i]? = some n ∧ y = .int n := by
  rw [List.getElem?_map] at h
  cases e : ns[i]? with
  | none => rw [e] at h; cases h
  | some n => rw [e] at h; exact ⟨n, rfl, (Option.some.inj h).symm⟩
theorem ok_deck (Z : Frees mg) (D : At K mg "_law_deck" (topS 24)) : Cal P w K mg base CX0 1 "_law_deck" ["_law_script"] (spDeck K) :=
  cal_mk D (fun _ _ _ _ _ _ us hl => match us, hl with | [_], _ => rfl) fun f fd F => by
  refine F.ok scDeck (fun vs H Q E h => ?_) (fun cdv A outer s H vs Q E hr h => ?_)
  · obtain ⟨a, ns, rfl, _⟩ := h
    rfl
  · obtain ⟨a, ns, rfl, hS, q⟩ := h
    refine ⟨_, pss_cons (ps_set (i := 1) scDeck.nd rfl (Or.inl rfl) pe_int)
      (pss_cons (ps_for PassesOwn.never rfl (pi_list (pv 0)) (pg_name (i := 2) scDeck.nd rfl (Or.inl rfl))
        (pss_one (ps_set (i := 1) scDeck.nd rfl (Or.inl rfl) (pe_op op_mod (pe_callTy call_int1 (by rfl) Z.int (by decide +kernel) (pa_cons (pe_op op_add (pe_op op_mul (pv 1) pe_int) (pv 2)) pa_nil)) pe_int))))
      (pss_one (ps_ret (pe_lst (pa_cons (pe_callTy call_list_of (by rfl) Z.list (by decide +kernel) (pa_cons (pv 0) pa_nil)) (pa_cons pe_int (pa_cons pe_int (pa_cons pe_int (pa_cons (pv 1) pa_nil))))))))), ?_⟩
    refine ⟨.ref a, rfl, a, rfl, ⟨_, hS⟩, for_list (K := K) (a := a) (xs := ns.map V.int) (fun i σ H' => ∃ z y, σ = [some (.ref a), some (.int z), y] ∧ H' = H) ⟨1, none, rfl, rfl⟩ (fun i σ H' _ hp => ?_) ?_ ?_⟩
    · obtain ⟨_, _, _, rfl⟩ := hp
      exact hS
    · rintro i x σ H' hi ⟨z, y, rfl, rfl⟩
      obtain ⟨n, _, rfl⟩ := at_int hi
      refine ⟨_, rfl, z, 1000003, rfl, rfl, .inr (by constructor <;> decide), _, rfl, _, n, rfl, rfl, .inl ⟨_, rfl, _, 998244353, rfl, rfl, (by show (0 : Int) < 998244353; decide), ?_⟩⟩
      exact ⟨_, _, rfl, rfl⟩
    · rintro σ H' ⟨z, y, rfl, rfl⟩
      refine ⟨_, rfl, a, _, rfl, .inl hS, fun l nl => ⟨_, rfl, by show 5 ≤ sizeLine; decide, fun dk nd => ?_⟩⟩
      have nq : l ≠ dk := fun e => by rw [e, ← e, upd_same] at nd; cases nd
      refine q dk l _ ⟨0, 0, 0, z, upd_same, nq, ?_⟩
      rw [upd_ne nq, upd_same]

/-! the draws -/
theorem scMixed : FnScope ["_law_cell", "_law_turn", "_law_number"] ["_law_cell", "_law_turn"] (defScope (topS 25)) := ⟨rfl, rfl, rfl, by decide +kernel, rfl, by decide +kernel, by decide +kernel⟩
def spMixed : Sp := fun vs H Q _ => ∃ c t : Int, vs = [.int c, .int t] ∧ ∀ r, Q (.int r) H
theorem mod_64 {x m : Int} (h0 : 0 < m) (h1 : m < 2 ^ 64) : -(2 ^ 64) < x % m ∧ x % m < 2 ^ 64 := by
  have a := Int.emod_nonneg x (Int.ne_of_gt h0)
  have b := Int.emod_lt_of_pos x h0
  constructor <;> omega
theorem ok_mixed (Z : Frees mg) (D : At K mg "_law_mixed" (topS 25)) : Cal P w K mg base CX0 1 "_law_mixed" ["_law_cell", "_law_turn"] spMixed :=
  cal_mk D (fun _ _ _ _ _ _ us hl => match us, hl with | [_, _], _ => rfl) fun f fd F => by
  refine F.ok scMixed (fun vs H Q E h => ?_) (fun cdv A outer s H vs Q E hr h => ?_)
  · obtain ⟨c, t, rfl, _⟩ := h
    rfl
  · obtain ⟨c, t, rfl, q⟩ := h
    refine ⟨_, pss_cons (ps_set (i := 2) scMixed.nd rfl (Or.inl rfl) (pe_op op_mod (pe_op op_mul (pe_callTy call_int1 (by rfl) Z.int (by decide +kernel) (pa_cons (pe_op op_add (pe_op op_add (pv 0) (pe_op op_mul pe_int (pv 1))) pe_int) pa_nil)) pe_int) pe_int))
      (pss_cons (ps_set (i := 2) scMixed.nd rfl (Or.inl rfl) (pe_op op_mod (pe_callTy call_int1 (by rfl) Z.int (by decide +kernel) (pa_cons (pe_op op_mul (pv 2) (pe_op op_add (pe_op op_fdiv (pv 2) pe_int) pe_int)) pa_nil)) pe_int))
      (pss_cons (ps_set (i := 2) scMixed.nd rfl (Or.inl rfl) (pe_op op_mod (pe_callTy call_int1 (by rfl) Z.int (by decide +kernel) (pa_cons (pe_op op_mul (pv 2) (pe_op op_add (pe_op op_add (pe_op op_fdiv (pv 2) pe_int) pe_int) (pv 1))) pa_nil)) pe_int))
      (pss_one (ps_ret (pe_op op_fdiv (pv 2) pe_int))))), ?_⟩
    refine ⟨.int c, rfl, .int t, rfl, 7919, t, rfl, rfl, .inl (by constructor <;> decide), c, _, rfl, rfl, _, 1, rfl, rfl, .inl ⟨_, rfl, _, 48271, rfl, rfl, .inr (by constructor <;> decide), _, 2147483647, rfl, rfl, (by show (0 : Int) < 2147483647; decide), ?_⟩⟩
    generalize hn : (c + 7919 * t + 1) * 48271 = n
    refine ⟨_, rfl, _, rfl, _, 1009, rfl, rfl, ⟨by decide, by decide⟩, _, 69621, rfl, rfl, _, _, rfl, rfl, .inl (mod_64 (by decide) (by decide)), .inl ⟨_, rfl, _, 2147483647, rfl, rfl, (by show (0 : Int) < 2147483647; decide), ?_⟩⟩
    generalize hn2 : (n % 2147483647 * (n % 2147483647 / 1009 + 69621)) = n2
    refine ⟨_, rfl, _, rfl, _, 2003, rfl, rfl, ⟨by decide, by decide⟩, _, 40692, rfl, rfl, .int t, rfl, _, t, rfl, rfl, _, _, rfl, rfl, .inl (mod_64 (by decide) (by decide)), .inl ⟨_, rfl, _, 2147483399, rfl, rfl, (by show (0 : Int) < 2147483399; decide), ?_⟩⟩
    exact ⟨_, rfl, _, 16, rfl, rfl, ⟨by decide, by decide⟩, q _⟩

theorem scDraw : FnScope ["_law_deck_here", "_law_many", "_law_cell", "_law_found"] ["_law_deck_here", "_law_many"] (defScope (topS 26)) := ⟨rfl, rfl, rfl, by decide +kernel, rfl, by decide +kernel, by decide +kernel⟩
def spDraw : Sp := fun vs H Q _ => ∃ (dk q : Addr) (m : Int) (ns : List Int), vs = [.ref dk, .int m] ∧ 0 < m ∧ m < 1073741824 ∧ Dk ns dk q H ∧ ∀ r H', 0 ≤ r → r < m → Up dk H H' → Dk ns dk q H' → Q (.int r) H'
theorem ok_draw (Z : Frees mg) (D1 : Cal P w K mg base CX0 1 "_law_mixed" ["_law_cell", "_law_turn"] spMixed) (D : At K mg "_law_draw" (topS 26)) : Cal P w K mg base CX0 2 "_law_draw" ["_law_deck_here", "_law_many"] spDraw :=
  cal_mk D (fun _ _ _ _ _ _ us hl => match us, hl with | [_, _], _ => rfl) fun f fd F => by
  refine F.ok scDraw (fun vs H Q E h => ?_) (fun cdv A outer s H vs Q E hr h => ?_)
  · obtain ⟨dk, q, m, ns, rfl, _⟩ := h
    rfl
  · obtain ⟨dk, q, m, ns, rfl, m0, m1, hD, fin⟩ := h
    refine ⟨_, pss_cons (ps_asg (pe_op op_add (pe_ix ix_list (pv 0) pe_int (fun _ _ => rfl)) pe_int) (pg_sub (pv 0) pe_int set_list))
      (Evl.pss_cut (ps_if (PW.pt (pw_and (pt_cmpR op_eq (pe_ix ix_list (pv 0) pe_int (fun _ _ => rfl)) pe_int (nomark _)) (pw_and1 (pt_cmpR op_lt (pe_ix ix_list (pv 0) pe_int (fun _ _ => rfl)) (pe_callB call_len_seq (by rfl) Z.len PySem.boot_len (pa_cons (pe_ix ix_list (pv 0) pe_int (fun _ _ => rfl)) pa_nil)) (nomark _)))))
        (pss_cons (ps_set (i := 2) scDraw.nd rfl (Or.inl rfl) (pe_ix ix_list (pe_ix ix_list (pv 0) pe_int (fun _ _ => rfl)) (pe_ix ix_list (pv 0) pe_int (fun _ _ => rfl)) (fun _ _ => rfl)))
        (pss_cons (ps_asg (pe_op op_add (pe_ix ix_list (pv 0) pe_int (fun _ _ => rfl)) pe_int) (pg_sub (pv 0) pe_int set_list))
        (pss_cons (ps_if (pt_chain op_lt op_lt (pe_un un_neg (pe_op op_pow pe_int pe_int)) (pv 2) (pe_op op_pow pe_int pe_int))
          (pss_one (ps_ret (pe_op op_mod (pe_callTy call_int1 (by rfl) Z.int (by decide +kernel) (pa_cons (pe_cal D1 hr (by decide) rfl (pa_cons (pv 2) (pa_cons (pe_ix ix_list (pv 0) pe_int (fun _ _ => rfl)) pa_nil))) pa_nil)) (pv 1)))) pss_nil)
        (pss_one (ps_asg (pe_callB call_abs (by rfl) Z.abs (by decide +kernel) (pa_cons (pv 2) pa_nil)) (pg_sub (pv 0) pe_int set_list)))))) pss_nil)
      (pss_cons (ps_if (pt_cmpR op_gt (pe_ix ix_list (pv 0) pe_int (fun _ _ => rfl)) pe_int (nomark _))
        (pss_cons (ps_set (i := 3) scDraw.nd rfl (Or.inl rfl) (pe_op op_mod (pe_callTy call_int1 (by rfl) Z.int (by decide +kernel) (pa_cons (pe_ix ix_list (pv 0) pe_int (fun _ _ => rfl)) pa_nil)) (pv 1)))
        (pss_cons (ps_asg (pe_op op_fdiv (pe_ix ix_list (pv 0) pe_int (fun _ _ => rfl)) (pv 1)) (pg_sub (pv 0) pe_int set_list))
        (pss_one (ps_ret (pv 3))))) pss_nil)
      (pss_one (ps_ret (pe_op op_mod (pe_callTy call_int1 (by rfl) Z.int (by decide +kernel) (pa_cons (pe_cal D1 hr (by decide) rfl (pa_cons (pe_ix ix_list (pv 0) pe_int (fun _ _ => rfl)) (pa_cons (pe_ix ix_list (pv 0) pe_int (fun _ _ => rfl)) pa_nil))) pa_nil)) (pv 1)))))), ?_⟩
    obtain ⟨i, l, t, z, e0, nq, eq⟩ := hD
    have rng : ∀ x : Int, 0 ≤ x % m ∧ x % m < m := fun x => ⟨Int.emod_nonneg x (Int.ne_of_gt m0), Int.emod_lt_of_pos x m0⟩
    -- the turn's count
    refine ⟨.ref dk, rfl, dk, _, 3, .int t, rfl, rfl, SqL.of e0, atI_nat (j := 3) rfl, t, 1, rfl, rfl, .ref dk, rfl, dk, _, 3, 3, rfl, rfl, e0, rfl, ?_⟩
    have u1 : Up dk H (upd H dk (.lst [.ref q, .int i, .int l, .int (t + 1), .int z])) := Up.upd
    have e1 : (upd H dk (.lst [.ref q, .int i, .int l, .int (t + 1), .int z])) dk = some (.lst [.ref q, .int i, .int l, .int (t + 1), .int z]) := upd_same
    have q1 : (upd H dk (.lst [.ref q, .int i, .int l, .int (t + 1), .int z])) q = some (.lst (ns.map V.int)) := (u1 q nq).trans eq
    show Evl.tCut _ _ _ _ (upd H dk (.lst [.ref q, .int i, .int l, .int (t + 1), .int z]))
    generalize upd H dk (.lst [.ref q, .int i, .int l, .int (t + 1), .int z]) = H1 at u1 e1 q1 ⊢
    refine ⟨fun σ' H' => ∃ y2 y3 i' l', σ' = [some (.ref dk), some (.int m), y2, y3] ∧ Up dk H H' ∧ H' dk = some (.lst [.ref q, .int (i' : Nat), .int l', .int (t + 1), .int z]) ∧ H' q = some (.lst (ns.map V.int)), ?_, ?_⟩
    · refine ⟨.ref dk, rfl, dk, _, 2, .int l, rfl, rfl, SqL.of e1, atI_nat (j := 2) rfl, rfl, _, rfl, ite2 (fun c => ?_) (fun c => ?_)⟩
      · refine ⟨.ref dk, rfl, dk, _, 1, .int i, rfl, rfl, SqL.of e1, atI_nat (j := 1) rfl, .ref dk, rfl, dk, _, 0, .ref q, rfl, rfl, SqL.of e1, atI_nat (j := 0) rfl, q, _, rfl, .inl (SqL.of q1), i, _, rfl, rfl, _, rfl, ite2 (fun c2 => ?_) (fun c2 => ?_)⟩
        · have hi : i < ns.length := by
            have zz := of_decide_eq_true c2
            rw [List.length_map] at zz
            omega
          have gi : (ns.map V.int)[i]? = some (.int ns[i]) := by
            rw [List.getElem?_map, List.getElem?_eq_getElem hi]
            rfl
          generalize ns[i] = x at gi
          refine ⟨.ref dk, rfl, dk, _, 0, .ref q, rfl, rfl, SqL.of e1, atI_nat (j := 0) rfl, .ref dk, rfl, dk, _, 1, .int i, rfl, rfl, SqL.of e1, atI_nat (j := 1) rfl, q, _, i, .int x, rfl, rfl, SqL.of q1, atI_nat gi, ?_⟩
          refine ⟨.ref dk, rfl, dk, _, 1, .int i, rfl, rfl, SqL.of e1, atI_nat (j := 1) rfl, i, 1, rfl, rfl, .ref dk, rfl, dk, _, 1, 1, rfl, rfl, e1, rfl, ?_⟩
          have u2 : Up dk H (upd H1 dk (.lst [.ref q, .int ((i + 1 : Nat) : Int), .int l, .int (t + 1), .int z])) := u1.trans Up.upd
          have e2 : (upd H1 dk (.lst [.ref q, .int ((i + 1 : Nat) : Int), .int l, .int (t + 1), .int z])) dk = some (.lst [.ref q, .int ((i + 1 : Nat) : Int), .int l, .int (t + 1), .int z]) := upd_same
          have q2 : (upd H1 dk (.lst [.ref q, .int ((i + 1 : Nat) : Int), .int l, .int (t + 1), .int z])) q = some (.lst (ns.map V.int)) := (upd_ne nq).trans q1
          show tSeq _ _ _ _ (upd H1 dk (.lst [.ref q, .int ((i + 1 : Nat) : Int), .int l, .int (t + 1), .int z]))
          generalize upd H1 dk (.lst [.ref q, .int ((i + 1 : Nat) : Int), .int l, .int (t + 1), .int z]) = H2 at u2 e2 q2 ⊢
          refine ⟨10, 18, rfl, rfl, ⟨by decide, by decide, by decide⟩, _, rfl, .int x, rfl, _, x, rfl, rfl, _, rfl, ite2 (fun c3 => ⟨10, 18, rfl, rfl, ⟨by decide, by decide, by decide⟩, x, _, rfl, rfl, _, rfl, ite2 (fun c4 => ?_) (fun c4 => ?_)⟩) (fun c3 => ⟨_, rfl, ?_⟩)⟩
          · refine ⟨.int x, rfl, .ref dk, rfl, dk, _, 3, .int (t + 1), rfl, rfl, SqL.of e2, atI_nat (j := 3) rfl, x, t + 1, rfl, fun r => .inl ⟨r, rfl, .int m, rfl, r, m, rfl, rfl, m0, ?_⟩⟩
            exact fin _ H2 (rng r).1 (rng r).2 u2 ⟨_, _, _, _, e2, nq, q2⟩
          all_goals
            refine ⟨.int x, rfl, x, rfl, .ref dk, rfl, dk, _, 2, 2, rfl, rfl, e2, rfl, ?_⟩
            exact ⟨_, _, i + 1, _, rfl, u2.trans Up.upd, upd_same, (upd_ne nq).trans q2⟩
        · exact ⟨_, _, i, l, rfl, u1, e1, q1⟩
      · exact ⟨_, _, i, l, rfl, u1, e1, q1⟩
    · rintro σ' H2 ⟨y2, y3, i', l', rfl, u2, e2, q2⟩
      refine ⟨.ref dk, rfl, dk, _, 2, .int l', rfl, rfl, SqL.of e2, atI_nat (j := 2) rfl, l', 0, rfl, rfl, _, rfl, ite2 (fun c => ?_) (fun c => ?_)⟩
      · refine ⟨.ref dk, rfl, dk, _, 2, .int l', rfl, rfl, SqL.of e2, atI_nat (j := 2) rfl, .inl ⟨l', rfl, .int m, rfl, l', m, rfl, rfl, m0, ?_⟩⟩
        refine ⟨.ref dk, rfl, dk, _, 2, .int l', rfl, rfl, SqL.of e2, atI_nat (j := 2) rfl, .int m, rfl, l', m, rfl, rfl, ⟨m0, m1⟩, .ref dk, rfl, dk, _, 2, 2, rfl, rfl, e2, rfl, ?_⟩
        refine ⟨_, rfl, fin _ _ (rng l').1 (rng l').2 (u2.trans Up.upd) ⟨i', _, _, _, upd_same, nq, (upd_ne nq).trans q2⟩⟩
      · refine ⟨.ref dk, rfl, dk, _, 4, .int z, rfl, rfl, SqL.of e2, atI_nat (j := 4) rfl, .ref dk, rfl, dk, _, 3, .int (t + 1), rfl, rfl, SqL.of e2, atI_nat (j := 3) rfl, z, t + 1, rfl, fun r => .inl ⟨r, rfl, .int m, rfl, r, m, rfl, rfl, m0, ?_⟩⟩
        exact fin _ H2 (rng r).1 (rng r).2 u2 ⟨i', _, _, _, e2, nq, q2⟩
end
end Kx

namespace Kx
open PySem PySem.Spec PyProof.Rows L2
section
variable {P : Program} {w : World} {K : PySem.W.Frag} {mg : Str → Option Value} {base : Heap}

/-! the outs of a packet -/
theorem inV_ints {o : Int} : ∀ {fs : List Int}, inV (.int o) (fs.map V.int) = decide (o ∈ fs)
  | [] => rfl
  | x :: r => by
    show ((x == o) || inV (.int o) (r.map V.int)) = decide (o ∈ x :: r)
    rw [inV_ints (fs := r)]
    by_cases c : x = o
    · subst c
      simp
    · have c2 : (x == o) = false := beq_eq_false_iff_ne.mpr c
      rw [c2, Bool.false_or]
      apply decide_eq_decide.mpr
      rw [List.mem_cons]
      exact ⟨.inr, fun h => h.elim (fun e => absurd e.symm c) id⟩
theorem flat_ints : ∀ {fs : List Int}, (fs.map V.int).all flatV = true
  | [] => rfl
  | _ :: r => flat_ints (fs := r)
theorem lot_of : ∀ (l : List Int) (last : Int), (∀ x ∈ l, last < x ∧ x ≤ 11) → l.Pairwise (· ≤ ·) → l.Nodup → lotFrom 12 last (l.map PyData.int) = true
  | [], _, _, _, _ => rfl
  | x :: r, last, hb, hp, hn => by
    have hx := hb x List.mem_cons_self
    have hp2 := List.pairwise_cons.mp hp
    have hn2 := List.nodup_cons.mp hn
    have ih := lot_of r x (fun y hy => by
      have a := hp2.1 y hy
      have b := (hb y (List.mem_cons_of_mem _ hy)).2
      have c : x ≠ y := fun e => hn2.1 (e ▸ hy)
      omega) hp2.2 hn2.2
    show ((decide (last + 1 ≤ x) && decide (x ≤ 12 - 1)) && lotFrom 12 x (r.map PyData.int)) = true
    rw [ih, decide_eq_true (show last + 1 ≤ x by omega), decide_eq_true (show x ≤ 12 - 1 by omega)]
    rfl
theorem scOuts : FnScope ["_law_deck_here", "_law_lines", "_law_most", "_law_hot", "_law_found", "_law_k", "_law_out"] ["_law_deck_here", "_law_lines", "_law_most", "_law_hot"] (defScope (topS 28)) := ⟨rfl, rfl, rfl, by decide +kernel, rfl, by decide +kernel, by decide +kernel⟩
def spOuts : Sp := fun vs H Q _ => ∃ (dk q : Addr) (ns : List Int), vs = [.ref dk, .int 12, .int 3, .int 0] ∧ Dk ns dk q H ∧
  ∀ (p : Addr) (os : List Int) (H' : Hp), Sm dk H H' → Dk ns dk q H' → p ≠ dk → H' p = some (.tup (os.map V.int)) → lotFrom 12 (-1) (os.map PyData.int) = true → 1 ≤ os.length → os.length ≤ 3 → Q (.ref p) H'
theorem ok_outs (Z : Frees mg) (D1 : Cal P w K mg base CX0 2 "_law_draw" ["_law_deck_here", "_law_many"] spDraw) (D : At K mg "_law_outs" (topS 28)) : Cal P w K mg base CX0 3 "_law_outs" ["_law_deck_here", "_law_lines", "_law_most", "_law_hot"] spOuts :=
  cal_mk D (fun _ _ _ _ _ _ us hl => match us, hl with | [_, _, _, _], _ => rfl) fun f fd F => by
  refine F.ok scOuts (fun vs H Q E h => ?_) (fun cdv A outer s H vs Q E hr h => ?_)
  · obtain ⟨dk, q, ns, rfl, _⟩ := h
    rfl
  · obtain ⟨dk, q, ns, rfl, hD, fin⟩ := h
    refine ⟨_, pss_cons (ps_set (i := 4) scOuts.nd rfl (Or.inl rfl) (pe_lst pa_nil))
      (pss_cons (ps_for PassesOwn.never rfl (pi_range1 rfl Z.range (pa_cons (pe_op op_add pe_int (pe_cal D1 hr (by decide) rfl (pa_cons (pv 0) (pa_cons (pv 2) pa_nil)))) pa_nil)) (pg_name (i := 5) scOuts.nd rfl (Or.inl rfl))
        (pss_cons (ps_set (i := 6) scOuts.nd rfl (Or.inl rfl) (pe_cal D1 hr (by decide) rfl (pa_cons (pv 0) (pa_cons (pv 1) pa_nil))))
        (Evl.pss_cut (ps_if (pt_cmpR op_eq (pe_cal D1 hr (by decide) rfl (pa_cons (pv 0) (pa_cons pe_int pa_nil))) pe_int (nomark _)) (pss_one (ps_set (i := 6) scOuts.nd rfl (Or.inl rfl) (pv 3))) pss_nil)
        (pss_one (ps_if (pt_cmpR op_notIn_seq (pv 6) (pv 4) (by rfl)) (pss_one (ps_expr (pe_bm PySem.F.plainAttrs_list PySem.F.slot_list_append PySem.F.type_list_append mt_append (pv 4) (pa_cons (pv 6) pa_nil)))) pss_nil)))))
      (pss_one (ps_ret (pe_callTy call_tuple_of (by rfl) Z.tup (by decide +kernel) (pa_cons (pe_callB cr_sorted (by rfl) Z.sorted (by decide +kernel) (pa_cons (pv 4) pa_nil)) pa_nil))))), ?_⟩
    refine ⟨Nat.zero_le _, fun l nl => ?_⟩
    have off := hD.off nl
    have s0 : Sm dk H (upd H l (.lst [])) := Sm.of (same_new nl)
    have d0 : Dk ns dk q (upd H l (.lst [])) := hD.mut off
    have e0 : (upd H l (.lst [])) l = some (.lst []) := upd_same
    show tSeq _ _ _ _ (upd H l (.lst []))
    generalize upd H l (.lst []) = H0 at s0 d0 e0 ⊢
    refine ⟨.ref dk, rfl, .int 3, rfl, dk, q, 3, ns, rfl, by decide, by decide, d0, fun r H1 r0 r1 u1 d1 => ⟨1, r, rfl, rfl, 1 + r, rfl, by omega, by omega, ?_⟩⟩
    have s1 := s0.trans u1.sm
    have e1 : H1 l = some (.lst []) := (u1 l off.1).trans e0
    refine for_range (lo := 0) (n := (1 + r).toNat) (fun i σ H' => ∃ y5 y6 fs, σ = [some (.ref dk), some (.int 12), some (.int 3), some (.int 0), some (.ref l), y5, y6] ∧ Sm dk H H' ∧ Dk ns dk q H' ∧ H' l = some (.lst (fs.map V.int)) ∧ fs.Nodup ∧ (∀ x ∈ fs, (-1 : Int) < x ∧ x ≤ 11) ∧ fs.length ≤ i ∧ (1 ≤ i → 1 ≤ fs.length))
      ⟨none, none, [], rfl, s1, d1, e1, List.nodup_nil, fun x h => absurd h (List.not_mem_nil), Nat.le_refl _, fun h => h⟩ ?_ ?_
    · rintro i σ H2 hi ⟨y5, y6, fs, rfl, s2, d2, e2, n2, b2, l2, _⟩
      refine ⟨.ref dk, rfl, .int 12, rfl, dk, q, 12, ns, rfl, by decide, by decide, d2, fun o H3 o0 o1 u3 d3 => ?_⟩
      have s3 := s2.trans u3.sm
      have e3 : H3 l = some (.lst (fs.map V.int)) := (u3 l off.1).trans e2
      refine ⟨fun σ' H' => ∃ y5 o', σ' = [some (.ref dk), some (.int 12), some (.int 3), some (.int 0), some (.ref l), y5, some (.int o')] ∧ -1 < o' ∧ o' ≤ 11 ∧ Sm dk H H' ∧ Dk ns dk q H' ∧ H' l = some (.lst (fs.map V.int)), ?_, ?_⟩
      · refine ⟨.ref dk, rfl, dk, q, 3, ns, rfl, by decide, by decide, d3, fun t H4 t0 t1 u4 d4 => ⟨rfl, _, rfl, ite2 (fun _ => ?_) (fun _ => ?_)⟩⟩
        · exact ⟨.int 0, rfl, _, 0, rfl, by decide, by decide, s3.trans u4.sm, d4, (u4 l off.1).trans e3⟩
        · exact ⟨_, o, rfl, by omega, by omega, s3.trans u4.sm, d4, (u4 l off.1).trans e3⟩
      · rintro σ' H4 ⟨y5', o', rfl, p0, p1, s4, d4, e4⟩
        refine ⟨.int o', rfl, .ref l, rfl, l, _, rfl, .inl (SqL.of e4), rfl, flat_ints, _, rfl, ite2 (fun c => ?_) (fun c => ?_)⟩
        · have c' : o' ∉ fs := by
            have z : (!inV (.int o') (fs.map V.int)) = true := c
            rw [inV_ints] at z
            exact of_decide_eq_false (nt z)
          refine ⟨.ref l, rfl, .inl ⟨rfl, _, SqL.of e4⟩, .int o', rfl, l, _, _, rfl, rfl, e4, ?_, ?_⟩
          · rw [List.length_map]
            exact small_lt (by omega)
          · refine ⟨_, _, fs ++ [o'], rfl, s4.mut nl, d4.mut off, by rw [upd_same, List.map_append]; rfl, ?_, ?_, ?_, ?_⟩
            · rw [List.nodup_append]
              refine ⟨n2, List.nodup_cons.mpr ⟨List.not_mem_nil, List.nodup_nil⟩, fun a ha b hb e => ?_⟩
              rw [List.mem_singleton] at hb
              exact c' (hb ▸ e ▸ ha)
            · intro x hx
              rcases List.mem_append.mp hx with h | h
              · exact b2 x h
              · rw [List.mem_singleton.mp h]
                exact ⟨p0, p1⟩
            · rw [List.length_append]
              show fs.length + 1 ≤ i + 1
              omega
            · intro _
              rw [List.length_append]
              show 1 ≤ fs.length + 1
              omega
        · have c' : o' ∈ fs := by
            have z : ¬ (!inV (.int o') (fs.map V.int)) = true := c
            rw [inV_ints] at z
            exact of_decide_eq_true (nf z)
          have pos := List.length_pos_of_mem c'
          exact ⟨_, _, fs, rfl, s4, d4, e4, n2, b2, by omega, fun _ => pos⟩
    · rintro σ H2 ⟨y5, y6, fs, rfl, s2, d2, e2, n2, b2, l2, g2⟩
      refine ⟨.ref l, rfl, l, fs, rfl, SqL.of e2, by omega, fun os p hp ho np => ⟨p, _, rfl, .inl ⟨SqL.of upd_same, fun t nt' => ?_⟩⟩⟩
      have sn : Same H2 (upd H2 p (.lst (os.map V.int))) := same_new np
      have st : Same (upd H2 p (.lst (os.map V.int))) (upd (upd H2 p (.lst (os.map V.int))) t (.tup (os.map V.int))) := same_new nt'
      have d5 := (d2.up sn).up st
      refine fin t os _ (s2.trans (Sm.of (sn.trans st))) d5 ((d2.up sn).off nt').1 upd_same (lot_of os (-1) (fun x hx => b2 x (hp.mem_iff.mp hx)) ho (hp.nodup_iff.mpr n2)) ?_ ?_
      · rw [hp.length_eq]
        exact g2 (by omega)
      · rw [hp.length_eq]
        omega

/-! a drawn packet -/
theorem sizes {r : Int} (r0 : 0 ≤ r) (r1 : r < 8) : ∃ z : Int, atI [V.int 1, .int 3, .int 4, .int 5, .int 8, .int 9, .int 12, .int 40] r = some (.int z) ∧ 1 ≤ z ∧ z ≤ 40 := by
  have c : r = 0 ∨ r = 1 ∨ r = 2 ∨ r = 3 ∨ r = 4 ∨ r = 5 ∨ r = 6 ∨ r = 7 := by omega
  rcases c with rfl | rfl | rfl | rfl | rfl | rfl | rfl | rfl <;> exact ⟨_, rfl, by decide, by decide⟩
theorem scPkt : FnScope ["_law_deck_here", "_law_lines", "_law_most", "_law_size", "_law_words", "_law_k"] ["_law_deck_here", "_law_lines", "_law_most"] (defScope (topS 29)) := ⟨rfl, rfl, rfl, by decide +kernel, rfl, by decide +kernel, by decide +kernel⟩
/-- a packet as it is drawn -/
structure Pk (s k : Int) (os ws : List Int) : Prop where
  s0 : 0 ≤ s
  s1 : s < 100
  k0 : 0 ≤ k
  k1 : k < 8
  o : lotFrom 12 (-1) (os.map PyData.int) = true
  o1 : 1 ≤ os.length
  o3 : os.length ≤ 3
  w1 : 1 ≤ ws.length
  w40 : ws.length ≤ 40
  wb : ∀ x ∈ ws, 0 ≤ x ∧ x < 256
def pkOf (s k : Int) (os ws : List Int) : PyData := .tuple [.int s, .int k, .tuple (os.map PyData.int), .tuple (ws.map PyData.int)]
def spPkt (K : PySem.W.Frag) : Sp := fun vs H Q _ => ∃ (dk q : Addr) (ns : List Int), vs = [.ref dk, .int 12, .int 3] ∧ Dk ns dk q H ∧
  ∀ (p : Addr) (s k : Int) (os ws : List Int) (H' : Hp), Sm dk H H' → Dk ns dk q H' → Dp K (Bar dk H') (.ref p) (pkOf s k os ws) → Pk s k os ws → Q (.ref p) H'
theorem ok_pkt (Z : Frees mg) (D1 : Cal P w K mg base CX0 2 "_law_draw" ["_law_deck_here", "_law_many"] spDraw) (D2 : Cal P w K mg base CX0 3 "_law_outs" ["_law_deck_here", "_law_lines", "_law_most", "_law_hot"] spOuts) (D : At K mg "_law_packet" (topS 29)) :
    Cal P w K mg base CX0 4 "_law_packet" ["_law_deck_here", "_law_lines", "_law_most"] (spPkt K) :=
  cal_mk D (fun _ _ _ _ _ _ us hl => match us, hl with | [_, _, _], _ => rfl) fun f fd F => by
  refine F.ok scPkt (fun vs H Q E h => ?_) (fun cdv A outer s H vs Q E hr h => ?_)
  · obtain ⟨dk, q, ns, rfl, _⟩ := h
    rfl
  · obtain ⟨dk, q, ns, rfl, hD, fin⟩ := h
    refine ⟨_, pss_cons (ps_set (i := 3) scPkt.nd rfl (Or.inl rfl) (pe_ix ix_list (pe_lst (pa_cons pe_int (pa_cons pe_int (pa_cons pe_int (pa_cons pe_int (pa_cons pe_int (pa_cons pe_int (pa_cons pe_int (pa_cons pe_int pa_nil)))))))))
        (pe_cal D1 hr (by decide) rfl (pa_cons (pv 0) (pa_cons pe_int pa_nil))) (fun _ _ => rfl)))
      (pss_cons (ps_set (i := 4) scPkt.nd rfl (Or.inl rfl) (pe_callTy call_tuple_of (by rfl) Z.tup (by decide +kernel) (pa_cons (pe_lc (own := [("_law_k", 5)]) (g := gName 5) (tt := tYes) rfl scPkt.nd
        (pi_range1 rfl Z.range (pa_cons (pe_op op_add pe_int (pe_cal D1 hr (by decide) rfl (pa_cons (pv 0) (pa_cons (pv 3) pa_nil)))) pa_nil))
        (blkOk_by (own := [("_law_k", 5)]) (N := ["_law_deck_here", "_law_lines", "_law_most", "_law_size", "_law_words", "_law_k"]) (sc := defScope (topS 29)) (by decide +kernel)) (fun _ _ _ _ _ => pg_name (i := 5) scPkt.nd rfl (Or.inl rfl)) (fun _ _ _ _ _ => pts_nil)
        (fun _ _ _ _ _ => pe_cal D1 hr (by decide) rfl (pa_cons (pv 0) (pa_cons pe_int pa_nil)))) pa_nil)))
      (pss_one (ps_ret (pe_tup (pa_cons (pe_cal D1 hr (by decide) rfl (pa_cons (pv 0) (pa_cons pe_int pa_nil))) (pa_cons (pe_cal D1 hr (by decide) rfl (pa_cons (pv 0) (pa_cons pe_int pa_nil)))
        (pa_cons (pe_cal D2 hr (by decide) rfl (pa_cons (pv 0) (pa_cons (pv 1) (pa_cons (pv 2) (pa_cons pe_int pa_nil))))) (pa_cons (pv 4) pa_nil)))))))), ?_⟩
    -- the size
    refine ⟨by show 8 ≤ sizeLine; decide, fun l nl => ?_⟩
    have s0 : Sm dk H (upd H l (.lst [.int 1, .int 3, .int 4, .int 5, .int 8, .int 9, .int 12, .int 40])) := Sm.of (same_new nl)
    have d0 : Dk ns dk q (upd H l (.lst [.int 1, .int 3, .int 4, .int 5, .int 8, .int 9, .int 12, .int 40])) := hD.up (same_new nl)
    refine ⟨.ref dk, rfl, dk, q, 8, ns, rfl, by decide, by decide, d0, fun r H1 r0 r1 u1 d1 => ?_⟩
    have e1 : H1 l = some (.lst [.int 1, .int 3, .int 4, .int 5, .int 8, .int 9, .int 12, .int 40]) := (u1 l (hD.off nl).1).trans upd_same
    have s1 := s0.trans u1.sm
    obtain ⟨z, hz, z1, z40⟩ := sizes r0 r1
    refine ⟨l, _, r, .int z, rfl, rfl, SqL.of e1, hz, ?_⟩
    -- the words
    refine ⟨.ref dk, rfl, .int z, rfl, dk, q, z, ns, rfl, by omega, by omega, d1, fun m H2 m0 m1 u2 d2 => ⟨1, m, rfl, rfl, 1 + m, rfl, by omega, by omega, fun L nL => ?_⟩⟩
    have s2 := s1.trans u2.sm
    have offL := d2.off nL
    refine lc_range (lo := 0) (n := (1 + m).toNat) (fun i H' => Sm dk H2 H' ∧ Dk ns dk q H' ∧ ∃ ws : List Int, H' L = some (.lst (ws.map V.int)) ∧ ws.length = i ∧ ∀ x ∈ ws, 0 ≤ x ∧ x < 256)
      ⟨Sm.of (same_new nL), d2.up (same_new nL), [], upd_same, rfl, fun x h => absurd h (List.not_mem_nil)⟩ (fun i H3 hi p => ?_) (fun H3 p => ?_)
    · obtain ⟨s3, d3, ws, e3, l3, b3⟩ := p
      refine ⟨rfl, .ref dk, rfl, dk, q, 256, ns, rfl, by decide, by decide, d3, fun x H4 x0 x1 u4 d4 => ⟨_, (u4 L offL.1).trans e3, ?_, (s3.trans u4.sm).mut nL, d4.mut offL, ws ++ [x], ?_, ?_, ?_⟩⟩
      · rw [List.length_map]
        exact small_lt (by omega)
      · rw [upd_same, List.map_append]
        rfl
      · rw [List.length_append, l3]
        rfl
      · intro y hy
        rcases List.mem_append.mp hy with h | h
        · exact b3 y h
        · rw [List.mem_singleton.mp h]
          exact ⟨x0, x1⟩
    · obtain ⟨s3, d3, ws, e3, l3, b3⟩ := p
      refine ⟨L, _, rfl, .inl ⟨SqL.of e3, fun T nT => ?_⟩⟩
      have sT : Same H3 (upd H3 T (.tup (ws.map V.int))) := same_new nT
      have s4 := (s2.trans s3).trans (Sm.of sT)
      have d4 := d3.up sT
      have t4 : Bar dk (upd H3 T (.tup (ws.map V.int))) T = some (.tup (ws.map V.int)) := bar_new d3.some nT
      generalize upd H3 T (.tup (ws.map V.int)) = H4 at s4 d4 t4 ⊢
      refine ⟨.ref dk, rfl, dk, q, 100, ns, rfl, by decide, by decide, d4, fun a H5 a0 a1 u5 d5 => ⟨.ref dk, rfl, dk, q, 8, ns, rfl, by decide, by decide, d5, fun b H6 b0 b1 u6 d6 => ?_⟩⟩
      refine ⟨.ref dk, rfl, .int 12, rfl, .int 3, rfl, dk, q, ns, rfl, d6, fun o os H7 s7 d7 no eo lo o1 o3 => ⟨.ref T, rfl, by show 4 ≤ sizeLine; decide, fun p np => ?_⟩⟩
      have s47 : Sm dk H4 H7 := (u5.sm.trans u6.sm).trans s7
      have sp : Same H7 (upd H7 p (.tup [.int a, .int b, .ref o, .ref T])) := same_new np
      have t7 : Bar dk (upd H7 p (.tup [.int a, .int b, .ref o, .ref T])) T = some (.tup (ws.map V.int)) := (s47.trans (Sm.of sp)).bar _ _ t4
      have o7 : Bar dk (upd H7 p (.tup [.int a, .int b, .ref o, .ref T])) o = some (.tup (os.map V.int)) := bar_at no (sp _ _ eo)
      have p7 : Bar dk (upd H7 p (.tup [.int a, .int b, .ref o, .ref T])) p = some (.tup [.int a, .int b, .ref o, .ref T]) := bar_new d7.some np
      refine fin p a b os ws _ ((s4.trans s47).trans (Sm.of sp)) (d7.up sp) ?_ ⟨a0, a1, b0, b1, lo, o1, o3, by omega, by omega, b3⟩
      exact .tup (SqT.of p7) (.cons (.int a) (.cons (.int b) (.cons (.tup (SqT.of o7) (dpa_ints os)) (.cons (.tup (SqT.of t7) (dpa_ints ws)) .nil))))
end
end Kx

namespace Kx
open PySem PySem.Spec PyProof.Rows L2
section
variable {P : Program} {w : World} {K : PySem.W.Frag} {mg : Str → Option Value} {base : Heap}

/-! the law's own judge of words -/
theorem scAre : FnScope ["_law_thing", "_law_most", "_law_word_here"] ["_law_thing", "_law_most"] (defScope (topS 32)) := ⟨rfl, rfl, rfl, by decide +kernel, rfl, by decide +kernel, by decide +kernel⟩
def spAre (K : PySem.W.Frag) : Sp := fun vs H Q _ => ∃ v d, ∃ most : Nat, vs = [v, .int most] ∧ Dp K H v d ∧ most ≤ 100000 ∧ ∀ H', Same H H' → Q (.bl (words most d)) H'
theorem ok_are (Z : Frees mg) (D1 : Cal P w K mg base CX0 1 "_law_is_within" ["_law_thing", "_law_least", "_law_most"] (spWithin K)) (D : At K mg "_law_are_words" (topS 32)) : Cal P w K mg base CX0 2 "_law_are_words" ["_law_thing", "_law_most"] (spAre K) :=
  cal_mk D (fun _ _ _ _ _ _ us hl => match us, hl with | [_, _], _ => rfl) fun f fd F => by
  refine F.ok scAre (fun vs H Q E h => ?_) (fun cdv A outer s H vs Q E hr h => ?_)
  · obtain ⟨v, d, most, rfl, _⟩ := h
    rfl
  · obtain ⟨v, d, most, rfl, hd, hm, q⟩ := h
    refine ⟨_, pss_cons (ps_if (PW.pt (pw_or (pt_not (pt_val (pe_isTup Z rfl rfl (pv 0)))) (pw_or1 (pt_not (pt_chain op_le op_le pe_int (pe_callB call_len_seq (by rfl) Z.len PySem.boot_len (pa_cons (pv 0) pa_nil)) (pv 1)))))) (pss_one (ps_ret pe_bl)) pss_nil)
      (pss_one (ps_ret (pe_all (wIn 0 255) Z rfl scAre.nd rfl (pv 0) mono_var (blkOk_by (own := [("_law_word_here", 2)]) (N := ["_law_thing", "_law_most", "_law_word_here"]) (sc := defScope (topS 32)) (by decide +kernel))
        (fun _ _ _ _ _ => pg_name (i := 2) scAre.nd rfl (Or.inl rfl)) (fun _ _ _ _ _ => pe_cal D1 hr (by decide) rfl (pa_cons (pv 2) (pa_cons pe_int (pa_cons pe_int pa_nil))))))), ?_⟩
    have no : words most d = false → Q (.bl false) H := fun e => by
      have z := q H (Same.refl H)
      rw [e] at z
      exact z
    refine ⟨v, rfl, v, .ty "tuple", _, _, _, rfl, .ty "tuple", dp_ty hd, ki_tup d, _, rfl, ite2 (fun c => ?_) (fun c => ?_)⟩
    · exact no (words_not (by rw [nt c]; exact Bool.false_ne_true))
    obtain ⟨ws, rfl⟩ := kTup_tup (nf c)
    obtain ⟨a, xs, rfl, ht, ha⟩ := dp_tup hd
    have hl := dpa_len ha
    have ew : words most (.tuple ws) = ((decide (1 ≤ ws.length) && decide (ws.length ≤ most)) && ws.all (wIn 0 255)) := rfl
    rw [ew] at q no
    refine ⟨.ref a, rfl, a, xs, rfl, .inr ht, 1, _, rfl, rfl, _, rfl, ite2 (fun c1 => ?_) (fun c1 => ?_)⟩
    · have g1 : 1 ≤ ws.length := by have := of_decide_eq_true c1; omega
      rw [decide_eq_true g1, Bool.true_and] at q no
      refine ⟨.int most, rfl, _, most, rfl, rfl, _, rfl, ite2 (fun c2 => ?_) (fun c2 => ?_)⟩
      · refine no ?_
        have g2 : ¬ ws.length ≤ most := by have := of_decide_eq_false (nt c2); omega
        rw [decide_eq_false g2, Bool.false_and]
      · have g2 : ws.length ≤ most := by have := of_decide_eq_true (nf c2); omega
        rw [decide_eq_true g2, Bool.true_and] at q
        exact ⟨.ref a, rfl, a, xs, ws, rfl, ht, ha, by omega, fun x => rfl, fun x d H2 Q2 s2 hx q2 => ⟨x, rfl, x, d, 0, 255, rfl, hx, q2⟩, fun H' s' => q H' s'⟩
    · refine ⟨_, rfl, no ?_⟩
      have g3 : ¬ 1 ≤ ws.length := by have := of_decide_eq_false (nd c1); omega
      rw [decide_eq_false g3, Bool.false_and, Bool.false_and]

/-! ascending lots -/
def ascB : List Int → Bool
  | x :: y :: r => decide (x < y) && ascB (y :: r)
  | _ => true
def ascR (os : List Int) : Bool := (List.range (os.length - 1)).all fun j : Nat => decide (os.getD j 0 < os.getD (j + 1) 0)
theorem ascR_eq : ∀ os : List Int, ascR os = ascB os
  | [] => rfl
  | [_] => rfl
  | x :: y :: r => by
    have ih := ascR_eq (y :: r)
    show (List.range (r.length + 1)).all (fun j : Nat => decide ((x :: y :: r).getD j 0 < (x :: y :: r).getD (j + 1) 0)) = (decide (x < y) && ascB (y :: r))
    rw [List.range_succ_eq_map, List.all_cons, List.all_map, ← ih]
    rfl
theorem lot_asc : ∀ (os : List Int) (last : Int), (∀ x ∈ os, 0 ≤ x ∧ x ≤ 11) → lotFrom 12 last (os.map PyData.int) = ((match os with | [] => true | x :: _ => decide (last < x)) && ascB os)
  | [], _, _ => rfl
  | [x], last, h => by
    have hx := h x List.mem_cons_self
    show ((decide (last + 1 ≤ x) && decide (x ≤ 12 - 1)) && true) = (decide (last < x) && true)
    rw [decide_eq_true (show x ≤ 12 - 1 by omega), Bool.and_true]
    exact congrArg (· && true) (decide_eq_decide.mpr ⟨fun _ => by omega, fun _ => by omega⟩)
  | x :: y :: r, last, h => by
    have hx := h x List.mem_cons_self
    have ih := lot_asc (y :: r) x fun z hz => h z (List.mem_cons_of_mem _ hz)
    show ((decide (last + 1 ≤ x) && decide (x ≤ 12 - 1)) && lotFrom 12 x ((y :: r).map PyData.int)) = (decide (last < x) && (decide (x < y) && ascB (y :: r)))
    rw [ih, decide_eq_true (show x ≤ 12 - 1 by omega), Bool.and_true]
    exact congrArg (· && (decide (x < y) && ascB (y :: r))) (decide_eq_decide.mpr ⟨fun _ => by omega, fun _ => by omega⟩)
theorem lot_bounds : ∀ (ds : List PyData) (last : Int), -1 ≤ last → lotFrom 12 last ds = true → ds.all (wIn 0 11) = true
  | [], _, _, _ => rfl
  | d :: r, last, h0, h => by
    rw [lotFrom_cons, Bool.and_eq_true] at h
    obtain ⟨i, rfl, i0, i1⟩ := wIn_int h.1
    have ih := lot_bounds r i (by omega) h.2
    rw [List.all_cons, ih, Bool.and_true]
    show (decide (0 ≤ i) && decide (i ≤ 11)) = true
    rw [decide_eq_true (show 0 ≤ i by omega), decide_eq_true (show i ≤ 11 by omega)]
    rfl
theorem all_bounds {lo hi : Int} {ns : List Int} (h : (ns.map PyData.int).all (wIn lo hi) = true) : ∀ x ∈ ns, lo ≤ x ∧ x ≤ hi := fun x hx => by
  have z := List.all_eq_true.mp h (.int x) (List.mem_map_of_mem hx)
  have z2 : (decide (lo ≤ x) && decide (x ≤ hi)) = true := z
  simp only [Bool.and_eq_true, decide_eq_true_eq] at z2
  exact z2
theorem lot_is (os : List Int) (h : ∀ x ∈ os, 0 ≤ x ∧ x ≤ 11) : lotFrom 12 (-1) (os.map PyData.int) = ascR os := by
  rw [lot_asc os (-1) h, ascR_eq]
  cases os with
  | nil => rfl
  | cons x r =>
    have hx := h x List.mem_cons_self
    show (decide (-1 < x) && ascB (x :: r)) = ascB (x :: r)
    rw [decide_eq_true (show -1 < x by omega), Bool.true_and]
theorem not_true {b : Bool} (h : b = true → False) : b = false := by
  cases b with
  | false => rfl
  | true => exact (h rfl).elim

/-! the law's own judge of packets -/
theorem scLPacket : FnScope ["_law_thing", "_law_out", "_law_k"] ["_law_thing"] (defScope (topS 33)) := ⟨rfl, rfl, rfl, by decide +kernel, rfl, by decide +kernel, by decide +kernel⟩
def spLPacket (K : PySem.W.Frag) : Sp := fun vs H Q _ => ∃ v d, vs = [v] ∧ Dp K H v d ∧ ∀ H', Same H H' → Q (.bl (packet d)) H'
theorem mono_ix {i : Nat} {n : Int} : ∀ σ H (Q Q' : VK), (∀ v H', Q v H' → Q' v H') → tOp (rIxT K) (tVar i) (tC (.int n)) σ H Q → tOp (rIxT K) (tVar i) (tC (.int n)) σ H Q' := fun σ H Q Q' k h => by
  obtain ⟨v, e, p, xs, j, u, e1, e2, e3, e4, q⟩ := h
  exact ⟨v, e, p, xs, j, u, e1, e2, e3, e4, k u H q⟩
theorem ok_lpacket (Z : Frees mg) (D1 : Cal P w K mg base CX0 1 "_law_is_within" ["_law_thing", "_law_least", "_law_most"] (spWithin K)) (D2 : Cal P w K mg base CX0 2 "_law_are_words" ["_law_thing", "_law_most"] (spAre K)) (D : At K mg "_law_is_packet" (topS 33)) :
    Cal P w K mg base CX0 3 "_law_is_packet" ["_law_thing"] (spLPacket K) :=
  cal_mk D (fun _ _ _ _ _ _ us hl => match us, hl with | [_], _ => rfl) fun f fd F => by
  refine F.ok scLPacket (fun vs H Q E h => ?_) (fun cdv A outer s H vs Q E hr h => ?_)
  · obtain ⟨v, d, rfl, _⟩ := h
    rfl
  · obtain ⟨v, d, rfl, hd, q⟩ := h
    refine ⟨_, pss_cons (ps_if (PW.pt (pw_or (pt_not (pt_val (pe_isTup Z rfl rfl (pv 0)))) (pw_or (pt_cmpR op_ne (pe_callB call_len_seq (by rfl) Z.len PySem.boot_len (pa_cons (pv 0) pa_nil)) pe_int (nomark _))
        (pw_or1 (pt_not (pt_val (pe_isTup Z rfl rfl (pe_ix ix_tup (pv 0) pe_int (fun _ _ => rfl))))))))) (pss_one (ps_ret pe_bl)) pss_nil)
      (pss_cons (ps_if (PW.pt (pw_or (pt_not (pt_val (pe_cal D1 hr (by decide) rfl (pa_cons (pe_ix ix_tup (pv 0) pe_int (fun _ _ => rfl)) (pa_cons pe_int (pa_cons pe_int pa_nil))))))
        (pw_or (pt_not (pt_val (pe_cal D1 hr (by decide) rfl (pa_cons (pe_ix ix_tup (pv 0) pe_int (fun _ _ => rfl)) (pa_cons pe_int (pa_cons pe_int pa_nil))))))
        (pw_or1 (pt_not (pt_chain op_le op_le pe_int (pe_callB call_len_seq (by rfl) Z.len PySem.boot_len (pa_cons (pe_ix ix_tup (pv 0) pe_int (fun _ _ => rfl)) pa_nil)) pe_int)))))) (pss_one (ps_ret pe_bl)) pss_nil)
      (pss_cons (ps_if (pt_not (pt_val (pe_all (wIn 0 11) Z rfl scLPacket.nd rfl (pe_ix ix_tup (pv 0) pe_int (fun _ _ => rfl)) mono_ix (blkOk_by (own := [("_law_out", 1)]) (N := ["_law_thing", "_law_out", "_law_k"]) (sc := defScope (topS 33)) (by decide +kernel))
        (fun _ _ _ _ _ => pg_name (i := 1) scLPacket.nd rfl (Or.inl rfl)) (fun _ _ _ _ _ => pe_cal D1 hr (by decide) rfl (pa_cons (pv 1) (pa_cons pe_int (pa_cons pe_int pa_nil))))))) (pss_one (ps_ret pe_bl)) pss_nil)
      (pss_one (ps_ret (pe_and (pe_callB (cr_all rfl) (by rfl) Z.all (by decide +kernel) (pa_cons (pe_lc (own := [("_law_k", 2)]) (g := gName 2) (tt := tYes) rfl scLPacket.nd
        (pi_range1 rfl Z.range (pa_cons (pe_op op_sub (pe_callB call_len_seq (by rfl) Z.len PySem.boot_len (pa_cons (pe_ix ix_tup (pv 0) pe_int (fun _ _ => rfl)) pa_nil)) pe_int) pa_nil))
        (blkOk_by (own := [("_law_k", 2)]) (N := ["_law_thing", "_law_out", "_law_k"]) (sc := defScope (topS 33)) (by decide +kernel)) (fun _ _ _ _ _ => pg_name (i := 2) scLPacket.nd rfl (Or.inl rfl)) (fun _ _ _ _ _ => pts_nil)
        (fun _ _ _ _ _ => pe_cmpR op_lt (pe_ix (r := rIxT K) ix_tup (pe_ix (r := rIxT K) ix_tup (pv 0) pe_int (fun _ _ => rfl)) (pv 2) (fun _ _ => rfl)) (pe_ix (r := rIxT K) ix_tup (pe_ix (r := rIxT K) ix_tup (pv 0) pe_int (fun _ _ => rfl)) (pe_op op_add (pv 2) pe_int) (fun _ _ => rfl)) (nomark _))) pa_nil))
        (pe_one (pe_cal D2 hr (by decide) rfl (pa_cons (pe_ix ix_tup (pv 0) pe_int (fun _ _ => rfl)) (pa_cons pe_int pa_nil))))))))), ?_⟩
    have no : packet d = false → ∀ H', Same H H' → Q (.bl false) H' := fun e H' s' => by
      have z := q H' s'
      rw [e] at z
      exact z
    have no0 : packet d = false → Q (.bl false) H := fun e => no e H (Same.refl H)
    refine ⟨v, rfl, v, .ty "tuple", _, _, _, rfl, .ty "tuple", dp_ty hd, ki_tup d, _, rfl, ite2 (fun c => ?_) (fun c => ?_)⟩
    · exact no0 (packet_not (by rw [nt c]; exact Bool.false_ne_true))
    obtain ⟨ds, rfl⟩ := kTup_tup (nf c)
    obtain ⟨a, xs, rfl, ht, ha⟩ := dp_tup hd
    have hl := dpa_len ha
    refine ⟨.ref a, rfl, a, xs, rfl, .inr ht, rfl, _, rfl, ite2 (fun c1 => ?_) (fun c1 => ?_)⟩
    · refine no0 (packet_len fun z => ?_)
      rw [hl, z] at c1
      cases c1
    have l4 : ds.length = 4 := by
      have z := of_decide_eq_true (nf c1)
      have z2 := V.int.inj z
      omega
    obtain ⟨sd, kd, od, wd, rfl⟩ := four l4
    obtain ⟨x, y, z, u, rfl, h1, h2, h3, h4⟩ := dpa4 ha
    have e : packet (.tuple [sd, kd, od, wd]) = (wIn 0 99 sd && (wIn 0 7 kd && (lot 12 od && ((decide (1 ≤ size od) && decide (size od ≤ 3)) && words 40 wd)))) := rfl
    rw [e] at q no no0
    refine ⟨.ref a, rfl, a, _, 2, z, rfl, rfl, ht, atI_nat (j := 2) rfl, z, .ty "tuple", _, _, _, rfl, .ty "tuple", dp_ty h3, ki_tup od, _, rfl, ite2 (fun c2 => ?_) (fun c2 => ?_)⟩
    · refine no0 ?_
      rw [lot_not (d := od) (by rw [nt c2]; exact Bool.false_ne_true), Bool.false_and, Bool.and_false, Bool.and_false]
    obtain ⟨os, rfl⟩ := kTup_tup (nf c2)
    obtain ⟨b, ys, rfl, ht3, ha3⟩ := dp_tup h3
    have hl3 := dpa_len ha3
    have sz : size (.tuple os) = ys.length := hl3.symm
    rw [sz] at q no no0
    refine ⟨.ref a, rfl, a, _, 0, x, rfl, rfl, ht, atI_nat (j := 0) rfl, x, sd, 0, 99, rfl, h1, _, rfl, ite2 (fun c3 => ?_) (fun c3 => ?_)⟩
    · exact no0 (by rw [nt c3, Bool.false_and])
    rw [nf c3, Bool.true_and] at q no no0
    refine ⟨.ref a, rfl, a, _, 1, y, rfl, rfl, ht, atI_nat (j := 1) rfl, y, kd, 0, 7, rfl, h2, _, rfl, ite2 (fun c4 => ?_) (fun c4 => ?_)⟩
    · exact no0 (by rw [nt c4, Bool.false_and])
    rw [nf c4, Bool.true_and] at q no no0
    refine ⟨.ref a, rfl, a, _, 2, .ref b, rfl, rfl, ht, atI_nat (j := 2) rfl, b, ys, rfl, .inr ht3, 1, _, rfl, rfl, _, rfl, ite2 (fun c5 => ?_) (fun c5 => ?_)⟩
    rotate_left
    · refine ⟨_, rfl, no0 ?_⟩
      have g3 : ¬ 1 ≤ ys.length := by have := of_decide_eq_false (nd c5); omega
      rw [decide_eq_false g3, Bool.false_and, Bool.false_and, Bool.and_false]
    have g1 : 1 ≤ ys.length := by have := of_decide_eq_true c5; omega
    rw [decide_eq_true g1, Bool.true_and] at q no no0
    refine ⟨_, 3, rfl, rfl, _, rfl, ite2 (fun c6 => ?_) (fun c6 => ?_)⟩
    · refine no0 ?_
      have g2 : ¬ ys.length ≤ 3 := by have := of_decide_eq_false (nt c6); omega
      rw [decide_eq_false g2, Bool.false_and, Bool.and_false]
    have g2 : ys.length ≤ 3 := by have := of_decide_eq_true (nf c6); omega
    rw [decide_eq_true g2, Bool.true_and] at q no no0
    refine ⟨.ref a, rfl, a, _, 2, .ref b, rfl, rfl, ht, atI_nat (j := 2) rfl, b, ys, os, rfl, ht3, ha3, by omega, fun x => rfl, fun x d H2 Q2 s2 hx q2 => ⟨x, rfl, x, d, 0, 11, rfl, hx, q2⟩, fun H1 s1 => ⟨_, rfl, ite2 (fun c7 => ?_) (fun c7 => ?_)⟩⟩
    · refine no ?_ H1 s1
      have z : lot 12 (.tuple os) = false := not_true fun y => by
        have y2 := lot_bounds os (-1) (by decide) y
        rw [nt c7] at y2
        cases y2
      rw [z, Bool.false_and]
    obtain ⟨ns, rfl⟩ : ∃ ns : List Int, os = ns.map PyData.int := ⟨_, all_ints (nf c7)⟩
    obtain rfl := dpa_vints ha3
    have bnd := all_bounds (nf c7)
    rw [List.length_map] at g1 g2
    have lo : lot 12 (.tuple (ns.map PyData.int)) = ascR ns := lot_is ns bnd
    rw [lo] at q no
    have ht1 := seqT_up s1 ht
    have ht31 := seqT_up s1 ht3
    refine ⟨.ref a, rfl, a, _, 2, .ref b, rfl, rfl, ht1, atI_nat (j := 2) rfl, b, _, rfl, .inr ht31, _, 1, rfl, rfl, _, rfl, ?_, ?_, fun L nL => ?_⟩
    · rw [List.length_map]
      omega
    · rw [List.length_map]
      omega
    · refine lc_range (lo := 0) (n := (((ns.map V.int).length : Int) - 1).toNat) (fun i H' => Same H1 H' ∧ H' L = some (.lst (((List.range i).map fun j : Nat => decide (ns.getD j 0 < ns.getD (j + 1) 0)).map V.bl))) ⟨same_new nL, upd_same⟩ (fun i H2 hi p => ?_) (fun H2 p => ?_)
      · obtain ⟨s2, e2⟩ := p
        rw [List.length_map] at hi
        have ht2 := seqT_up s2 ht1
        have ht32 := seqT_up s2 ht31
        have i0 : i < ns.length := by omega
        have i1 : i + 1 < ns.length := by omega
        have gv : ∀ j : Nat, j < ns.length → (ns.map V.int)[j]? = some (.int (ns.getD j 0)) := fun j hj => by
          rw [List.getElem?_map, List.getD_eq_getElem?_getD, List.getElem?_eq_getElem hj]
          rfl
        refine ⟨rfl, .ref a, rfl, a, _, 2, .ref b, rfl, rfl, ht2, atI_nat (j := 2) rfl, _, rfl, b, _, (0 : Int) + i, .int (ns.getD i 0), rfl, rfl, ht32, ?_, ?_⟩
        · rw [Int.zero_add]
          exact atI_nat (gv i i0)
        refine ⟨.ref a, rfl, a, _, 2, .ref b, rfl, rfl, ht2, atI_nat (j := 2) rfl, _, rfl, (0 : Int) + i, 1, rfl, rfl, b, _, (0 : Int) + i + 1, .int (ns.getD (i + 1) 0), rfl, rfl, ht32, ?_, ?_⟩
        · rw [Int.zero_add]
          exact atI_nat (j := i + 1) (gv (i + 1) i1)
        refine ⟨_, _, rfl, rfl, _, e2, ?_, fun c o ec => ?_, ?_⟩
        · rw [List.length_map, List.length_map, List.length_range]
          exact small_lt (by omega)
        · rw [upd_ne (ne_of_none ec nL)]
          exact s2 _ _ ec
        · rw [upd_same, List.range_succ, List.map_append, List.map_append]
          rfl
      · obtain ⟨s2, e2⟩ := p
        have en : (((ns.map V.int).length : Int) - 1).toNat = ns.length - 1 := by
          rw [List.length_map]
          omega
        rw [en] at e2
        refine ⟨L, _, rfl, SqL.of e2, _, rfl, ?_⟩
        have ea : ((List.range (ns.length - 1)).map fun j : Nat => decide (ns.getD j 0 < ns.getD (j + 1) 0)).all id = ascR ns := by
          rw [List.all_map]
          rfl
        rw [ea]
        refine ite2 (fun c8 => ?_) (fun c8 => ?_)
        · rw [c8, Bool.true_and] at q
          have ht2 := seqT_up s2 ht1
          exact ⟨.ref a, rfl, a, _, 3, u, rfl, rfl, ht2, atI_nat (j := 3) rfl, u, wd, 40, rfl, dp_up (s1.trans s2) _ _ h4, by decide, fun H3 s3 => q H3 ((s1.trans s2).trans s3)⟩
        · exact no (by rw [nd c8, Bool.false_and]) H2 (s1.trans s2)
end
end Kx

namespace Kx
open PySem PySem.Spec PyProof.Rows L2
section
variable {P : Program} {w : World} {K : PySem.W.Frag} {mg : Str → Option Value} {base : Heap}

theorem some_up {dk : Addr} {H H' : Hp} (hk : H dk ≠ none) (s : Same H H') : H' dk ≠ none := by
  cases g : H dk with
  | none => exact absurd g hk
  | some o => rw [s _ _ g]; exact fun q => nomatch q
/-! slices and sums of tuples, over a heap with a deck -/
theorem sl_bar {dk a : Addr} {H : Hp} {xs : List V} {lo hi : Option Int} {Q : VK} (hk : H dk ≠ none) (h : SqT K (Bar dk H) a xs) (q : ∀ b H', Same H H' → SqT K (Bar dk H') b (cutV xs lo hi) → Q (.ref b) H') : rSlA K (.ref a) lo hi H Q := by
  refine ⟨a, xs, rfl, seqT_up Bar_le h, fun e => q a H (Same.refl H) ?_, fun _ p np => q p _ (same_new np) (SqT.of (bar_new hk np))⟩
  have z : cutV xs lo hi = xs := by
    unfold cutV
    rw [e.1, e.2, Nat.sub_zero, List.drop_zero, List.take_length]
  rw [z]
  exact h
theorem cat_bar {dk a b : Addr} {H : Hp} {xs ys : List V} {Q : VK} (hk : H dk ≠ none) (ha : SqT K (Bar dk H) a xs) (hb : SqT K (Bar dk H) b ys) (hl : xs.length + ys.length ≤ 100000) (q : ∀ c H', Same H H' → SqT K (Bar dk H') c (xs ++ ys) → Q (.ref c) H') : rCatA K (.ref a) (.ref b) H Q := by
  refine ⟨a, b, xs, ys, rfl, rfl, seqT_up Bar_le ha, seqT_up Bar_le hb, small_line hl, fun e => q b H (Same.refl H) ?_, fun _ e => q a H (Same.refl H) ?_, fun _ _ p np => q p _ (same_new np) (SqT.of (bar_new hk np))⟩
  · rw [e, List.nil_append]
    exact hb
  · rw [e, List.append_nil]
    exact ha
/-- where places run -/
theorem cut_to (xs : List V) (n : Nat) : cutV xs none (some (n : Int)) = xs.take n := by
  unfold cutV
  rw [HT.sIx_none, HT.sIx_nat, List.drop_zero, Nat.sub_zero]
  by_cases c : n ≤ xs.length
  · rw [Nat.min_eq_left c]
  · rw [Nat.min_eq_right (by omega), List.take_length, List.take_of_length_le (by omega)]
theorem cut_from (xs : List V) (n : Nat) : cutV xs (some (n : Int)) none = xs.drop n := by
  unfold cutV
  rw [HT.sIx_none, HT.sIx_nat]
  by_cases c : n ≤ xs.length
  · rw [Nat.min_eq_left c]
    exact List.take_of_length_le (by rw [List.length_drop]; omega)
  · rw [Nat.min_eq_right (by omega), List.drop_length, List.drop_of_length_le (by omega)]
    exact List.take_nil

/-! a load as data -/
def ldOf (a b c : Int) (ws : List Int) (e : Int) : PyData := .tuple [.int a, .int b, .int c, .tuple (ws.map PyData.int), .int e]
theorem bar_ld {dk : Addr} {H : Hp} {v : V} {a b c e : Int} {ws : List Int} (h : Dp K (Bar dk H) v (ldOf a b c ws e)) : ∃ p t, v = .ref p ∧ SqT K (Bar dk H) p [.int a, .int b, .int c, .ref t, .int e] ∧ SqT K (Bar dk H) t (ws.map V.int) := by
  obtain ⟨p, xs, rfl, ht, ha⟩ := dp_tup h
  obtain ⟨x, y, z, u, w, rfl, h1, h2, h3, h4, h5⟩ := dpa5 ha
  obtain ⟨t, zs, rfl, ht4, ha4⟩ := dp_tup h4
  obtain rfl := dp_int h1
  obtain rfl := dp_int h2
  obtain rfl := dp_int h3
  obtain rfl := dp_int h5
  obtain rfl := dpa_vints ha4
  exact ⟨p, t, rfl, ht, ht4⟩
theorem ld_bar {dk p t : Addr} {H : Hp} {a b c e : Int} {ws : List Int} (h : SqT K (Bar dk H) p [.int a, .int b, .int c, .ref t, .int e]) (ht : SqT K (Bar dk H) t (ws.map V.int)) : Dp K (Bar dk H) (.ref p) (ldOf a b c ws e) :=
  .tup h (.cons (.int a) (.cons (.int b) (.cons (.int c) (.cons (.tup ht (dpa_ints ws)) (.cons (.int e) .nil)))))
theorem at_ints (ws : List Int) (j : Nat) (h : j < ws.length) : (ws.map V.int)[j]? = some (.int (ws.getD j 0)) := by
  rw [List.getElem?_map, List.getD_eq_getElem?_getD, List.getElem?_eq_getElem h]
  rfl

/-! _law_fitted -/
theorem scFit : FnScope ["_law_thing", "_law_total", "_law_place"] ["_law_thing"] (defScope (topS 35)) := ⟨rfl, rfl, rfl, by decide +kernel, rfl, by decide +kernel, by decide +kernel⟩
def spFit (K : PySem.W.Frag) : Sp := fun vs H Q _ => ∃ (dk : Addr) (v : V) (a b c e : Int) (ws : List Int), vs = [v] ∧ H dk ≠ none ∧ Dp K (Bar dk H) v (ldOf a b c ws e) ∧ ws.length ≤ 100000 ∧
  ∀ (p : Addr) (e' : Int) (H' : Hp), Same H H' → Dp K (Bar dk H') (.ref p) (ldOf a b c ws e') → Q (.ref p) H'
theorem ok_fit (Z : Frees mg) (D : At K mg "_law_fitted" (topS 35)) : Cal P w K mg base CX0 1 "_law_fitted" ["_law_thing"] (spFit K) :=
  cal_mk D (fun _ _ _ _ _ _ us hl => match us, hl with | [_], _ => rfl) fun f fd F => by
  refine F.ok scFit (fun vs H Q E h => ?_) (fun cdv A outer s H vs Q E hr h => ?_)
  · obtain ⟨dk, v, a, b, c, e, ws, rfl, _⟩ := h
    rfl
  · obtain ⟨dk, v, a, b, c, e, ws, rfl, hk, hd, hz, fin⟩ := h
    obtain ⟨p, t, rfl, hp, ht⟩ := bar_ld hd
    have hp0 := seqT_up Bar_le hp
    have ht0 := seqT_up Bar_le ht
    refine ⟨_, pss_cons (ps_set (i := 1) scFit.nd rfl (Or.inl rfl) (pe_op op_add (pe_op op_add (pe_op op_mul pe_int (pe_ix ix_tup (pv 0) pe_int (fun _ _ => rfl))) (pe_op op_mul pe_int (pe_ix ix_tup (pv 0) pe_int (fun _ _ => rfl)))) (pe_op op_mul pe_int (pe_ix ix_tup (pv 0) pe_int (fun _ _ => rfl)))))
      (pss_cons (ps_for PassesOwn.never rfl (pi_range1 rfl Z.range (pa_cons (pe_callB call_len_seq (by rfl) Z.len PySem.boot_len (pa_cons (pe_ix ix_tup (pv 0) pe_int (fun _ _ => rfl)) pa_nil)) pa_nil)) (pg_name (i := 2) scFit.nd rfl (Or.inl rfl))
        (pss_one (ps_set (i := 1) scFit.nd rfl (Or.inl rfl) (pe_op op_add (pv 1) (pe_op op_mul (pe_ix ix_tup (pe_ix ix_tup (pv 0) pe_int (fun _ _ => rfl)) (pv 2) (fun _ _ => rfl)) (pe_op op_add pe_int (pv 2)))))))
      (pss_one (ps_ret (pe_op op_catA (pe_slice sl_tupA (pv 0) po_none (po_some pe_int)) (pe_tup (pa_cons (pe_op op_mod (pe_callTy call_int1 (by rfl) Z.int (by decide +kernel) (pa_cons (pv 1) pa_nil)) pe_int) pa_nil)))))), ?_⟩
    refine ⟨.ref p, rfl, p, _, 0, .int a, rfl, rfl, hp0, atI_nat (j := 0) rfl, 13, a, rfl, rfl, .inl (by constructor <;> decide), .ref p, rfl, p, _, 2, .int c, rfl, rfl, hp0, atI_nat (j := 2) rfl, 11, c, rfl, rfl, .inl (by constructor <;> decide), _, _, rfl, rfl,
      .ref p, rfl, p, _, 1, .int b, rfl, rfl, hp0, atI_nat (j := 1) rfl, 7, b, rfl, rfl, .inl (by constructor <;> decide), _, _, rfl, rfl, ?_⟩
    refine ⟨.ref p, rfl, p, _, 3, .ref t, rfl, rfl, hp0, atI_nat (j := 3) rfl, t, _, rfl, .inr ht0, _, rfl, ?_, ?_, ?_⟩
    · omega
    · rw [List.length_map]
      omega
    refine for_range (lo := 0) (n := (((ws.map V.int).length : Nat) : Int).toNat) (fun i σ H' => ∃ z y, σ = [some (.ref p), some (.int z), y] ∧ H' = H) ⟨_, _, rfl, rfl⟩ ?_ ?_
    · rintro i σ H' hi ⟨z, y, rfl, rfl⟩
      have hi' : i < ws.length := by
        rw [List.length_map] at hi
        omega
      refine ⟨_, rfl, .ref p, rfl, p, _, 3, .ref t, rfl, rfl, hp0, atI_nat (j := 3) rfl, _, rfl, t, _, (0 : Int) + i, .int (ws.getD i 0), rfl, rfl, ht0, ?_, _, rfl, 1, (0 : Int) + i, rfl, rfl, _, _, rfl, rfl, .inr (by constructor <;> omega), _, _, rfl, rfl, ?_⟩
      · rw [Int.zero_add]
        exact atI_nat (at_ints ws i hi')
      · exact ⟨_, _, rfl, rfl⟩
    · rintro σ H' ⟨z, y, rfl, rfl⟩
      refine ⟨.ref p, rfl, _, rfl, ?_⟩
      refine sl_bar hk hp fun r H1 s1 hr1 => ?_
      rw [show cutV [V.int a, .int b, .int c, .ref t, .int e] none (some 4) = [.int a, .int b, .int c, .ref t] from cut_to _ 4] at hr1
      refine ⟨.int z, rfl, .inl ⟨z, rfl, z, 251, rfl, rfl, (by show (0 : Int) < 251; decide), by show 1 ≤ sizeLine; decide, fun u nu => ?_⟩⟩
      have hk1 : H1 dk ≠ none := some_up hk s1
      have su : Same H1 (upd H1 u (.tup [.int (z % 251)])) := same_new nu
      have hk2 : (upd H1 u (.tup [.int (z % 251)])) dk ≠ none := some_up hk1 su
      refine cat_bar hk2 (seqT_up (Sm.of su).bar hr1) (SqT.of (bar_new hk1 nu)) (by show 4 + 1 ≤ 100000; decide) fun m H2 s2 hm => ?_
      exact fin m (z % 251) H2 ((s1.trans su).trans s2) (ld_bar hm (seqT_up (Sm.of ((s1.trans su).trans s2)).bar ht))

/-! _law_load -/
theorem cut_mid (xs : List V) (j : Nat) : cutV xs (some ((4 : Int) * (j : Int))) (some ((4 : Int) * (j : Int) + 4)) = (xs.drop (4 * j)).take 4 := by
  unfold cutV
  rw [show (4 : Int) * (j : Int) + 4 = ((4 * j + 4 : Nat) : Int) by omega, show (4 : Int) * (j : Int) = ((4 * j : Nat) : Int) by omega, HT.sIx_nat, HT.sIx_nat]
  by_cases c : 4 * j ≤ xs.length
  · rw [Nat.min_eq_left c]
    by_cases c2 : 4 * j + 4 ≤ xs.length
    · rw [Nat.min_eq_left c2, show 4 * j + 4 - 4 * j = 4 by omega]
    · rw [Nat.min_eq_right (by omega), List.take_of_length_le (by rw [List.length_drop]; omega), List.take_of_length_le (by rw [List.length_drop]; omega)]
  · rw [Nat.min_eq_right (show xs.length ≤ 4 * j by omega), List.drop_length, List.drop_of_length_le (show xs.length ≤ 4 * j by omega), List.take_nil, List.take_nil]
theorem wIn_mk {lo hi i : Int} (h0 : lo ≤ i) (h1 : i ≤ hi) : wIn lo hi (.int i) = true := by
  show (decide (lo ≤ i) && decide (i ≤ hi)) = true
  rw [decide_eq_true h0, decide_eq_true h1]
  rfl
theorem load_ld (a b c : Int) (ws : List Int) (e : Int) : load (ldOf a b c ws e) = (wIn 0 1000000000 (.int a) && (wIn 0 9 (.int b) && (wIn 0 (9 - b) (.int c) && (decide (1 ≤ ws.length) && (decide (ws.length ≤ 4) && ((decide (c ≤ 0) || decide (4 ≤ ws.length)) && ((ws.map PyData.int).all (wIn 0 255) && (wIn 0 250 (.int e) && decide (e = check a b c ws))))))))) := by
  show (wIn 0 1000000000 (.int a) && (wIn 0 9 (.int b) && (wIn 0 (9 - b) (.int c) && (true && (decide (1 ≤ (ws.map PyData.int).length) && (decide ((ws.map PyData.int).length ≤ 4) && ((decide (c ≤ 0) || decide (4 ≤ (ws.map PyData.int).length)) && ((ws.map PyData.int).all (wIn 0 255) && (wIn 0 250 (.int e) && decide (e = check a b c (intsOf (.tuple (ws.map PyData.int))))))))))))) = _
  rw [ints_back, List.length_map, Bool.true_and]
theorem m251 (x : Int) : wIn 0 250 (.int (x % 251)) = true := wIn_mk (by omega) (by omega)
theorem ld_ok {n : Int} {ws : List Int} {j : Nat} (w1 : 1 ≤ ws.length) (w40 : ws.length ≤ 40) (wb : ∀ x ∈ ws, 0 ≤ x ∧ x < 256) (n0 : 0 ≤ n) (n1 : n ≤ 1000000000) (hj : j < (ws.length + 3) / 4) :
    load (ldOf n j ((((ws.length : Nat) : Int) - 1) / 4 - j) ((ws.drop (4 * j)).take 4) ((7 * (j : Int) + 11 * ((((ws.length : Nat) : Int) - 1) / 4 - j) + 13 * n + (wl ((ws.drop (4 * j)).take 4) ((ws.drop (4 * j)).take 4).length).sum) % 251)) = true := by
  have len : ((ws.drop (4 * j)).take 4).length = min 4 (ws.length - 4 * j) := by rw [List.length_take, List.length_drop]
  have all : (((ws.drop (4 * j)).take 4).map PyData.int).all (wIn 0 255) = true := by
    rw [List.all_eq_true]
    intro d hd
    obtain ⟨x, hx, rfl⟩ := List.mem_map.mp hd
    have z := wb x (List.mem_of_mem_drop (List.mem_of_mem_take hx))
    exact wIn_mk z.1 (by omega)
  have ck : check n j ((((ws.length : Nat) : Int) - 1) / 4 - j) ((ws.drop (4 * j)).take 4) = (7 * (j : Int) + 11 * ((((ws.length : Nat) : Int) - 1) / 4 - j) + 13 * n + (wl ((ws.drop (4 * j)).take 4) ((ws.drop (4 * j)).take 4).length).sum) % 251 := by
    unfold check wsum
    exact congrArg (· % 251) (by omega)
  rw [load_ld, ck, all, len, wIn_mk n0 n1, wIn_mk (show (0 : Int) ≤ (j : Int) by omega) (show (j : Int) ≤ 9 by omega), wIn_mk (show (0 : Int) ≤ (((ws.length : Nat) : Int) - 1) / 4 - j by omega) (show (((ws.length : Nat) : Int) - 1) / 4 - j ≤ 9 - j by omega),
    decide_eq_true (show 1 ≤ min 4 (ws.length - 4 * j) by omega), decide_eq_true (show min 4 (ws.length - 4 * j) ≤ 4 by omega), m251, decide_eq_true rfl]
  by_cases c : (((ws.length : Nat) : Int) - 1) / 4 - j ≤ 0
  · rw [decide_eq_true c]
    rfl
  · rw [decide_eq_true (show 4 ≤ min 4 (ws.length - 4 * j) by omega), Bool.or_true]
    rfl
theorem scLd : FnScope ["_law_number", "_law_words", "_law_part", "_law_left", "_law_some", "_law_total", "_law_place"] ["_law_number", "_law_words", "_law_part"] (defScope (topS 30)) := ⟨rfl, rfl, rfl, by decide +kernel, rfl, by decide +kernel, by decide +kernel⟩
def spLd (K : PySem.W.Frag) : Sp := fun vs H Q _ => ∃ (dk a : Addr) (n : Int) (j : Nat) (ws : List Int), vs = [.int n, .ref a, .int j] ∧ H dk ≠ none ∧ SqT K (Bar dk H) a (ws.map V.int) ∧ 1 ≤ ws.length ∧ ws.length ≤ 40 ∧ (∀ x ∈ ws, 0 ≤ x ∧ x < 256) ∧ 0 ≤ n ∧ n ≤ 1000000000 ∧ j < (ws.length + 3) / 4 ∧
  ∀ (p : Addr) (b c e : Int) (us : List Int) (H' : Hp), Same H H' → Dp K (Bar dk H') (.ref p) (ldOf n b c us e) → load (ldOf n b c us e) = true → us.length ≤ 4 → Q (.ref p) H'
theorem ok_ld (Z : Frees mg) (D : At K mg "_law_load" (topS 30)) : Cal P w K mg base CX0 1 "_law_load" ["_law_number", "_law_words", "_law_part"] (spLd K) :=
  cal_mk D (fun _ _ _ _ _ _ us hl => match us, hl with | [_, _, _], _ => rfl) fun f fd F => by
  refine F.ok scLd (fun vs H Q E h => ?_) (fun cdv A outer s H vs Q E hr h => ?_)
  · obtain ⟨dk, a, n, j, ws, rfl, _⟩ := h
    rfl
  · obtain ⟨dk, a, n, j, ws, rfl, hk, ha, w1, w40, wb, n0, n1, hj, fin⟩ := h
    have ha0 := seqT_up Bar_le ha
    refine ⟨_, pss_cons (ps_set (i := 3) scLd.nd rfl (Or.inl rfl) (pe_op op_sub (pe_op op_fdiv (pe_op op_sub (pe_callB call_len_seq (by rfl) Z.len PySem.boot_len (pa_cons (pv 1) pa_nil)) pe_int) pe_int) (pv 2)))
      (pss_cons (ps_set (i := 4) scLd.nd rfl (Or.inl rfl) (pe_slice sl_tupA (pv 1) (po_some (pe_op op_mul pe_int (pv 2))) (po_some (pe_op op_add (pe_op op_mul pe_int (pv 2)) pe_int))))
      (pss_cons (ps_set (i := 5) scLd.nd rfl (Or.inl rfl) (pe_op op_add (pe_op op_add (pe_op op_mul pe_int (pv 2)) (pe_op op_mul pe_int (pv 3))) (pe_op op_mul pe_int (pv 0))))
      (pss_cons (ps_for PassesOwn.never rfl (pi_range1 rfl Z.range (pa_cons (pe_callB call_len_seq (by rfl) Z.len PySem.boot_len (pa_cons (pv 4) pa_nil)) pa_nil)) (pg_name (i := 6) scLd.nd rfl (Or.inl rfl))
        (pss_one (ps_set (i := 5) scLd.nd rfl (Or.inl rfl) (pe_op op_add (pv 5) (pe_op op_mul (pe_op op_add (pv 6) pe_int) (pe_ix ix_tup (pv 4) (pv 6) (fun _ _ => rfl)))))))
      (pss_one (ps_ret (pe_tup (pa_cons (pv 0) (pa_cons (pv 2) (pa_cons (pv 3) (pa_cons (pv 4) (pa_cons (pe_op op_mod (pe_callTy call_int1 (by rfl) Z.int (by decide +kernel) (pa_cons (pv 5) pa_nil)) pe_int) pa_nil))))))))))), ?_⟩
    refine ⟨.ref a, rfl, a, _, rfl, .inr ha0, _, 1, rfl, rfl, _, 4, rfl, rfl, ⟨by decide, by decide⟩, .int j, rfl, _, j, rfl, rfl, ?_⟩
    refine ⟨.ref a, rfl, .int j, rfl, 4, j, rfl, rfl, .inl (by constructor <;> decide), _, rfl, .int j, rfl, 4, j, rfl, rfl, .inl (by constructor <;> decide), _, 4, rfl, rfl, _, rfl, ?_⟩
    refine sl_bar hk ha fun r H1 s1 hr1 => ?_
    have er : cutV (ws.map V.int) (some ((4 : Int) * (j : Int))) (some ((4 : Int) * (j : Int) + 4)) = ((ws.drop (4 * j)).take 4).map V.int := by rw [cut_mid, List.map_take, List.map_drop]
    have hr2 : SqT K (Bar dk H1) r (((ws.drop (4 * j)).take 4).map V.int) := er ▸ hr1
    have ld := ld_ok w1 w40 wb n0 n1 hj
    have lenU : ((ws.drop (4 * j)).take 4).length ≤ 4 := by rw [List.length_take]; omega
    clear hr1 er
    rw [List.length_map]
    dsimp only
    generalize (((ws.length : Nat) : Int) - 1) / 4 - j = left at ld ⊢
    generalize (ws.drop (4 * j)).take 4 = us at hr2 ld lenU
    have hr0 := seqT_up Bar_le hr2
    refine ⟨.int j, rfl, 7, j, rfl, rfl, .inl (by constructor <;> decide), .int left, rfl, 11, left, rfl, rfl, .inl (by constructor <;> decide), _, _, rfl, rfl, .int n, rfl, 13, n, rfl, rfl, .inl (by constructor <;> decide), _, _, rfl, rfl, ?_⟩
    refine ⟨.ref r, rfl, r, _, rfl, .inr hr0, _, rfl, ?_, ?_, ?_⟩
    · omega
    · rw [List.length_map]
      omega
    refine for_range (lo := 0) (n := (((us.map V.int).length : Nat) : Int).toNat) (fun i σ H' => ∃ y, σ = [some (.int n), some (.ref a), some (.int j), some (.int left), some (.ref r), some (.int (7 * (j : Int) + 11 * left + 13 * n + (wl us i).sum)), y] ∧ H' = H1) ⟨none, ?_, rfl⟩ ?_ ?_
    · show _ = [some (V.int n), some (.ref a), some (.int j), some (.int left), some (.ref r), some (.int (7 * (j : Int) + 11 * left + 13 * n + 0)), none]
      rw [Int.add_zero]
      rfl
    · rintro i σ H' hi ⟨y, rfl, rfl⟩
      have hi' : i < us.length := by
        rw [List.length_map] at hi
        omega
      refine ⟨_, rfl, _, rfl, (0 : Int) + i, 1, rfl, rfl, .ref r, rfl, _, rfl, r, _, (0 : Int) + i, .int (us.getD i 0), rfl, rfl, hr0, ?_, _, _, rfl, rfl, .inl (by constructor <;> omega), _, _, rfl, rfl, ?_⟩
      · rw [Int.zero_add]
        exact atI_nat (at_ints us i hi')
      · have ee : 7 * (j : Int) + 11 * left + 13 * n + (wl us (i + 1)).sum = (7 * (j : Int) + 11 * left + 13 * n + (wl us i).sum) + ((0 : Int) + i + 1) * us.getD i 0 := by
          rw [wl_sum, Int.zero_add]
          exact (Int.add_assoc _ _ _).symm
        refine ⟨some (.int ((0 : Int) + i)), ?_, rfl⟩
        rw [ee]
        rfl
    · rintro σ H' ⟨y, rfl, rfl⟩
      rw [List.length_map, Int.toNat_natCast]
      refine ⟨.int n, rfl, .int j, rfl, .int left, rfl, .ref r, rfl, _, rfl, .inl ⟨_, rfl, _, 251, rfl, rfl, (by show (0 : Int) < 251; decide), by show 5 ≤ sizeLine; decide, fun p np => ?_⟩⟩
      have sp : Same H' (upd H' p (.tup [.int n, .int j, .int left, .ref r, .int ((7 * (j : Int) + 11 * left + 13 * n + (wl us us.length).sum) % 251)])) := same_new np
      exact fin p j left _ us _ (s1.trans sp) (ld_bar (SqT.of (bar_new (some_up hk s1) np)) (seqT_up (Sm.of sp).bar hr2)) ld lenU
end
end Kx

namespace Kx
open PySem PySem.Spec PyProof.Rows L2
section
variable {P : Program} {w : World} {K : PySem.W.Frag} {mg : Str → Option Value} {base : Heap}

/-! the law's own judge of loads -/
theorem words_as (wd : PyData) (g y : Bool) : (kTup wd && (decide (1 ≤ size wd) && (decide (size wd ≤ 4) && (g && (wordsIn wd && y))))) = (words 4 wd && (g && y)) := by
  cases wd with
  | tuple ws =>
    show (true && (decide (1 ≤ ws.length) && (decide (ws.length ≤ 4) && (g && (ws.all (wIn 0 255) && y))))) = (((decide (1 ≤ ws.length) && decide (ws.length ≤ 4)) && ws.all (wIn 0 255)) && (g && y))
    cases decide (1 ≤ ws.length) <;> cases decide (ws.length ≤ 4) <;> cases ws.all (wIn 0 255) <;> cases g <;> cases y <;> rfl
  | _ => rfl
theorem scLLoad : FnScope ["_law_thing", "_law_total", "_law_place"] ["_law_thing"] (defScope (topS 34)) := ⟨rfl, rfl, rfl, by decide +kernel, rfl, by decide +kernel, by decide +kernel⟩
theorem ok_lload (Z : Frees mg) (D1 : Cal P w K mg base CX0 1 "_law_is_within" ["_law_thing", "_law_least", "_law_most"] (spWithin K)) (D2 : Cal P w K mg base CX0 2 "_law_are_words" ["_law_thing", "_law_most"] (spAre K)) (D : At K mg "_law_is_load" (topS 34)) :
    Cal P w K mg base CX0 3 "_law_is_load" ["_law_thing"] (spLoad K) :=
  cal_mk D (fun _ _ _ _ _ _ us hl => match us, hl with | [_], _ => rfl) fun f fd F => by
  refine F.ok scLLoad (fun vs H Q E h => ?_) (fun cdv A outer s H vs Q E hr h => ?_)
  · obtain ⟨v, d, rfl, _⟩ := h
    rfl
  · obtain ⟨v, d, rfl, hd, q⟩ := h
    refine ⟨_, pss_cons (ps_if (PW.pt (pw_or (pt_not (pt_val (pe_isTup Z rfl rfl (pv 0)))) (pw_or (pt_cmpR op_ne (pe_callB call_len_seq (by rfl) Z.len PySem.boot_len (pa_cons (pv 0) pa_nil)) pe_int (nomark _))
        (pw_or1 (pt_not (pt_val (pe_cal D1 hr (by decide) rfl (pa_cons (pe_ix ix_tup (pv 0) pe_int (fun _ _ => rfl)) (pa_cons pe_int (pa_cons (pe_op op_pow pe_int pe_int) pa_nil)))))))))) (pss_one (ps_ret pe_bl)) pss_nil)
      (pss_cons (ps_if (PW.pt (pw_or (pt_not (pt_val (pe_cal D1 hr (by decide) rfl (pa_cons (pe_ix ix_tup (pv 0) pe_int (fun _ _ => rfl)) (pa_cons pe_int (pa_cons pe_int pa_nil))))))
        (pw_or (pt_not (pt_val (pe_cal D1 hr (by decide) rfl (pa_cons (pe_ix ix_tup (pv 0) pe_int (fun _ _ => rfl)) (pa_cons pe_int (pa_cons pe_int pa_nil))))))
        (pw_or1 (pt_cmpR op_gt (pe_op op_add (pe_ix ix_tup (pv 0) pe_int (fun _ _ => rfl)) (pe_ix ix_tup (pv 0) pe_int (fun _ _ => rfl))) pe_int (nomark _)))))) (pss_one (ps_ret pe_bl)) pss_nil)
      (pss_cons (ps_if (PW.pt (pw_or (pt_not (pt_val (pe_cal D2 hr (by decide) rfl (pa_cons (pe_ix ix_tup (pv 0) pe_int (fun _ _ => rfl)) (pa_cons pe_int pa_nil)))))
        (pw_or1 (PW.pt (pw_and (pt_cmpR op_gt (pe_ix ix_tup (pv 0) pe_int (fun _ _ => rfl)) pe_int (nomark _)) (pw_and1 (pt_cmpR op_lt (pe_callB call_len_seq (by rfl) Z.len PySem.boot_len (pa_cons (pe_ix ix_tup (pv 0) pe_int (fun _ _ => rfl)) pa_nil)) pe_int (nomark _)))))))) (pss_one (ps_ret pe_bl)) pss_nil)
      (pss_cons (ps_set (i := 1) scLLoad.nd rfl (Or.inl rfl) (pe_op op_add (pe_op op_add (pe_op op_mul pe_int (pe_ix ix_tup (pv 0) pe_int (fun _ _ => rfl))) (pe_op op_mul pe_int (pe_ix ix_tup (pv 0) pe_int (fun _ _ => rfl)))) (pe_op op_mul pe_int (pe_ix ix_tup (pv 0) pe_int (fun _ _ => rfl)))))
      (pss_cons (ps_for PassesOwn.never rfl (pi_range1 rfl Z.range (pa_cons (pe_callB call_len_seq (by rfl) Z.len PySem.boot_len (pa_cons (pe_ix ix_tup (pv 0) pe_int (fun _ _ => rfl)) pa_nil)) pa_nil)) (pg_name (i := 2) scLLoad.nd rfl (Or.inl rfl))
        (pss_one (ps_set (i := 1) scLLoad.nd rfl (Or.inl rfl) (pe_op op_add (pv 1) (pe_op op_mul (pe_ix ix_tup (pe_ix ix_tup (pv 0) pe_int (fun _ _ => rfl)) (pv 2) (fun _ _ => rfl)) (pe_op op_add pe_int (pv 2)))))))
      (pss_one (ps_ret (pe_and (pe_cal D1 hr (by decide) rfl (pa_cons (pe_ix ix_tup (pv 0) pe_int (fun _ _ => rfl)) (pa_cons pe_int (pa_cons pe_int pa_nil))))
        (pe_one (pe_cmpR op_eq (pe_op op_mod (pe_callTy call_int1 (by rfl) Z.int (by decide +kernel) (pa_cons (pe_op op_sub (pv 1) (pe_ix ix_tup (pv 0) pe_int (fun _ _ => rfl))) pa_nil)) pe_int) pe_int (nomark _)))))))))), ?_⟩
    have no : load d = false → ∀ H', Same H H' → Q (.bl false) H' := fun e H' s' => by
      have z := q H' s'
      rw [e] at z
      exact z
    have no0 : load d = false → Q (.bl false) H := fun e => no e H (Same.refl H)
    refine ⟨v, rfl, v, .ty "tuple", _, _, _, rfl, .ty "tuple", dp_ty hd, ki_tup d, _, rfl, ite2 (fun c => ?_) (fun c => ?_)⟩
    · exact no0 (load_not (by rw [nt c]; exact Bool.false_ne_true))
    obtain ⟨ds, rfl⟩ := kTup_tup (nf c)
    obtain ⟨a, xs, rfl, ht, ha⟩ := dp_tup hd
    have hl := dpa_len ha
    refine ⟨.ref a, rfl, a, xs, rfl, .inr ht, rfl, _, rfl, ite2 (fun c1 => ?_) (fun c1 => ?_)⟩
    · refine no0 (load_len fun z => ?_)
      rw [hl, z] at c1
      cases c1
    have l5 : ds.length = 5 := by
      have z := of_decide_eq_true (nf c1)
      have z2 := V.int.inj z
      omega
    obtain ⟨pd, qd, ld, wd, cd, rfl⟩ := five l5
    obtain ⟨x, y, z, u, t, rfl, h1, h2, h3, h4, h5⟩ := dpa5 ha
    have e : load (.tuple [pd, qd, ld, wd, cd]) = (wIn 0 1000000000 pd && (wIn 0 9 qd && (wIn 0 (9 - intOf qd) ld && (words 4 wd && ((decide (intOf ld ≤ 0) || decide (4 ≤ size wd)) && (wIn 0 250 cd && decide (intOf cd = check (intOf pd) (intOf qd) (intOf ld) (intsOf wd)))))))) := by
      rw [← words_as]
      rfl
    rw [e] at q no no0
    refine ⟨.ref a, rfl, a, _, 0, x, rfl, rfl, ht, atI_nat (j := 0) rfl, 10, 9, rfl, rfl, ⟨by decide, by decide, by decide⟩, x, pd, 0, 1000000000, rfl, h1, _, rfl, ite2 (fun c2 => ?_) (fun c2 => ?_)⟩
    · exact no0 (by rw [nt c2, Bool.false_and])
    rw [nf c2, Bool.true_and] at q no no0
    refine ⟨.ref a, rfl, a, _, 1, y, rfl, rfl, ht, atI_nat (j := 1) rfl, y, qd, 0, 9, rfl, h2, _, rfl, ite2 (fun c3 => ?_) (fun c3 => ?_)⟩
    · exact no0 (by rw [nt c3, Bool.false_and])
    rw [nf c3, Bool.true_and] at q no no0
    obtain ⟨pi, rfl, _⟩ := wIn_int (nf c2)
    obtain ⟨qi, rfl, hq0, hq9⟩ := wIn_int (nf c3)
    obtain rfl := dp_int h1
    obtain rfl := dp_int h2
    rw [show intOf (.int qi) = qi from rfl] at q no no0
    refine ⟨.ref a, rfl, a, _, 2, z, rfl, rfl, ht, atI_nat (j := 2) rfl, z, ld, 0, 9, rfl, h3, _, rfl, ite2 (fun c4 => ?_) (fun c4 => ?_)⟩
    · refine no0 ?_
      have zz : wIn 0 (9 - qi) ld = false := not_true fun y => by
        obtain ⟨li, rfl, a0, a1⟩ := wIn_int y
        have g : wIn 0 9 (.int li) = true := wIn_mk a0 (by omega)
        rw [nt c4] at g
        cases g
      rw [zz, Bool.false_and]
    obtain ⟨li, rfl, hl0, hl9⟩ := wIn_int (nf c4)
    obtain rfl := dp_int h3
    rw [show intOf (.int li) = li from rfl] at q no no0
    refine ⟨.ref a, rfl, a, _, 1, .int qi, rfl, rfl, ht, atI_nat (j := 1) rfl, .ref a, rfl, a, _, 2, .int li, rfl, rfl, ht, atI_nat (j := 2) rfl, qi, li, rfl, rfl, _, 9, rfl, rfl, _, rfl, ite2 (fun c5 => ?_) (fun c5 => ?_)⟩
    · refine no0 ?_
      have g5 := of_decide_eq_true c5
      have zz : wIn 0 (9 - qi) (.int li) = false := not_true fun y => by
        obtain ⟨l2, e2, a0, a1⟩ := wIn_int y
        cases e2
        omega
      rw [zz, Bool.false_and]
    have g5 := of_decide_eq_false (nd c5)
    rw [wIn_mk hl0 (show li ≤ 9 - qi by omega), Bool.true_and] at q no no0
    refine ⟨.ref a, rfl, a, _, 3, u, rfl, rfl, ht, atI_nat (j := 3) rfl, u, wd, 4, rfl, h4, by decide, fun H1 s1 => ⟨_, rfl, ite2 (fun c6 => ?_) (fun c6 => ?_)⟩⟩
    · exact no (by rw [nt c6, Bool.false_and]) H1 s1
    rw [nf c6, Bool.true_and] at q no
    obtain ⟨ws, rfl⟩ : ∃ ws, wd = .tuple ws := by
      cases wd with
      | tuple ws => exact ⟨ws, rfl⟩
      | _ => exact absurd (nf c6) Bool.false_ne_true
    have ew : ((decide (1 ≤ ws.length) && decide (ws.length ≤ 4)) && ws.all (wIn 0 255)) = true := nf c6
    simp only [Bool.and_eq_true, decide_eq_true_eq] at ew
    obtain ⟨⟨w1, w4⟩, wa⟩ := ew
    obtain ⟨ns, rfl⟩ : ∃ ns : List Int, ws = ns.map PyData.int := ⟨_, all_ints wa⟩
    obtain ⟨b, zs, rfl, ht4, ha4⟩ := dp_tup h4
    obtain rfl := dpa_vints ha4
    rw [List.length_map] at w1 w4
    rw [ints_back, show size (.tuple (ns.map PyData.int)) = ns.length from List.length_map _] at q no
    have ht1 := seqT_up s1 ht
    have ht41 := seqT_up s1 ht4
    refine ⟨.ref a, rfl, a, _, 2, .int li, rfl, rfl, ht1, atI_nat (j := 2) rfl, li, 0, rfl, rfl, _, rfl, ite2 (fun c8 => ⟨.ref a, rfl, a, _, 3, .ref b, rfl, rfl, ht1, atI_nat (j := 3) rfl, b, _, rfl, .inr ht41, _, 4, rfl, rfl, _, rfl, ite2 (fun c9 => ?_) (fun c9 => ?_)⟩) (fun c8 => ?_)⟩
    · refine no ?_ H1 s1
      have z1 := of_decide_eq_true c8
      have z2 := of_decide_eq_true c9
      rw [List.length_map] at z2
      rw [decide_eq_false (show ¬ li ≤ 0 by omega), decide_eq_false (show ¬ 4 ≤ ns.length by omega)]
      rfl
    all_goals
      have g : (decide (li ≤ 0) || decide (4 ≤ ns.length)) = true := by
        first
          | (have z := of_decide_eq_false (nd c9); rw [List.length_map] at z; rw [decide_eq_true (show 4 ≤ ns.length by omega), Bool.or_true])
          | (have z := of_decide_eq_false (nd c8); rw [decide_eq_true (show li ≤ 0 by omega), Bool.true_or])
      rw [g, Bool.true_and] at q no
      refine ⟨.ref a, rfl, a, _, 0, .int pi, rfl, rfl, ht1, atI_nat (j := 0) rfl, 13, pi, rfl, rfl, .inl (by constructor <;> decide), .ref a, rfl, a, _, 2, .int li, rfl, rfl, ht1, atI_nat (j := 2) rfl, 11, li, rfl, rfl, .inl (by constructor <;> decide), _, _, rfl, rfl,
        .ref a, rfl, a, _, 1, .int qi, rfl, rfl, ht1, atI_nat (j := 1) rfl, 7, qi, rfl, rfl, .inl (by constructor <;> decide), _, _, rfl, rfl, ?_⟩
      refine ⟨.ref a, rfl, a, _, 3, .ref b, rfl, rfl, ht1, atI_nat (j := 3) rfl, b, _, rfl, .inr ht41, _, rfl, ?_, ?_, ?_⟩
      · omega
      · rw [List.length_map]
        omega
      refine for_range (lo := 0) (n := (((ns.map V.int).length : Nat) : Int).toNat) (fun i σ H' => ∃ y, σ = [some (.ref a), some (.int (13 * pi + 11 * li + 7 * qi + (wl ns i).sum)), y] ∧ H' = H1) ⟨none, ?_, rfl⟩ ?_ ?_
      · show _ = [some (V.ref a), some (.int (13 * pi + 11 * li + 7 * qi + 0)), none]
        rw [Int.add_zero]
        rfl
      · rintro i σ H' hi ⟨y, rfl, rfl⟩
        have hi' : i < ns.length := by
          rw [List.length_map] at hi
          omega
        refine ⟨_, rfl, .ref a, rfl, a, _, 3, .ref b, rfl, rfl, ht1, atI_nat (j := 3) rfl, _, rfl, b, _, (0 : Int) + i, .int (ns.getD i 0), rfl, rfl, ht41, ?_, _, rfl, 1, (0 : Int) + i, rfl, rfl, _, _, rfl, rfl, .inr (by constructor <;> omega), _, _, rfl, rfl, ?_⟩
        · rw [Int.zero_add]
          exact atI_nat (at_ints ns i hi')
        · have ee : 13 * pi + 11 * li + 7 * qi + (wl ns (i + 1)).sum = (13 * pi + 11 * li + 7 * qi + (wl ns i).sum) + ns.getD i 0 * (1 + ((0 : Int) + i)) := by
            rw [wl_sum, Int.zero_add, Int.mul_comm (ns.getD i 0), Int.add_comm 1 (i : Int)]
            exact (Int.add_assoc _ _ _).symm
          refine ⟨some (.int ((0 : Int) + i)), ?_, rfl⟩
          rw [ee]
          rfl
      · rintro σ H' ⟨y, rfl, rfl⟩
        rw [List.length_map, Int.toNat_natCast]
        refine ⟨.ref a, rfl, a, _, 4, t, rfl, rfl, ht1, atI_nat (j := 4) rfl, t, cd, 0, 250, rfl, dp_up s1 _ _ h5, _, rfl, ite2 (fun c11 => ?_) (fun c11 => ?_)⟩
        · obtain ⟨ci, rfl, c0, c250⟩ := wIn_int c11
          obtain rfl := dp_int h5
          refine ⟨_, rfl, .ref a, rfl, a, _, 4, .int ci, rfl, rfl, ht1, atI_nat (j := 4) rfl, _, ci, rfl, rfl, .inl ⟨_, rfl, _, 251, rfl, rfl, (by show (0 : Int) < 251; decide), rfl, ?_⟩⟩
          have z := q H' s1
          rw [c11, Bool.true_and] at z
          have eb : decide (V.int ((13 * pi + 11 * li + 7 * qi + (wl ns ns.length).sum - ci) % 251) = V.int 0) = decide (intOf (.int ci) = check (intOf (.int pi)) qi li ns) := by
            apply decide_eq_decide.mpr
            show _ ↔ ci = ((wl ns ns.length).sum + 7 * qi + 11 * li + 13 * pi) % 251
            exact ⟨fun h => by have h2 := V.int.inj h; omega, fun h => congrArg V.int (by omega)⟩
          show Q (.bl (decide (V.int ((13 * pi + 11 * li + 7 * qi + (wl ns ns.length).sum - ci) % 251) = V.int 0))) H'
          rw [eb]
          exact z
        · exact no (by rw [nd c11, Bool.false_and]) H' s1
end
end Kx

namespace Kx
open PySem PySem.Spec PyProof.Rows L2
section
variable {P : Program} {w : World} {K : PySem.W.Frag} {mg : Str → Option Value} {base : Heap}

/-! _law_told: cells_in in a try -/
structure ErrTxt (K : PySem.W.Frag) (mg : Str → Option Value) (NP : Addr) : Prop where
  e : ExcTxt K mg NP
  c : ExcC K NP
  m : PySem.W.exmOne K (.ref NP) (.ref NP) = some true
  fe : ∃ FE : Addr, mg "FabricError" = some (.ref FE) ∧ PySem.W.kitOne K (.ref NP) (.ref FE) = some true
  no : ∃ NO : Addr, mg "NoOutput" = some (.ref NO) ∧ PySem.W.kitOne K (.ref NP) (.ref NO) = some false
theorem kit_own {A C : Addr} {b : Bool} (h2 : PySem.W.isClsIn K C = true) (h3 : PySem.W.typeIn K (.ref C) = some (.type "type")) (h4 : PySem.W.subIn K (.ref A) (.ref C) = some b) (self : PySem.W.subIn K (.ref A) (.ref A) = some true) : PySem.W.kitOne K (.ref A) (.ref C) = some b := by
  unfold PySem.W.kitOne
  by_cases c : A = C
  · subst c
    have eb : b = true := (Option.some.inj (h4.symm.trans self))
    rw [if_pos (beq_self_eq_true _), eb]
  · rw [if_neg (by intro z; exact c (Value.ref.inj (beq_iff_eq.mp z)))]
    have e2 : ((PySem.W.clsIn K C).isSome && PySem.W.typeIn K (.ref C) == some (.type "type")) = true := by
      have h2' : (PySem.W.clsIn K C).isSome = true := h2
      rw [h2', h3] <;> rfl
    show (if ((PySem.W.clsIn K C).isSome && PySem.W.typeIn K (.ref C) == some (.type "type")) = true then PySem.W.subIn K (.ref A) (.ref C) else none) = some b
    rw [if_pos e2]
    exact h4
def tellOf (d : PyData) : PyData := if packet d then .tuple [.str "cells", .int (cellsOf d : Nat)] else .tuple [.str "none", .bool true]
theorem scTold : FnScope ["_law_thing", "_law_found", "error"] ["_law_thing"] (defScope (topS 38)) := ⟨rfl, rfl, rfl, by decide +kernel, rfl, by decide +kernel, by decide +kernel⟩
def spTold (K : PySem.W.Frag) : Sp := fun vs H Q _ => ∃ v d, vs = [v] ∧ Dp K H v d ∧ ∀ (p : Addr) (xs : List V) (H' : Hp), Same H H' → H' p = some (.tup xs) → (packet d = true → xs = [.str "cells", .int (cellsOf d : Nat)]) → (packet d = false → xs = [.str "none", .bl true]) → Q (.ref p) H'
/-- the suite: ("none", isinstance(error, FabricError) and not isinstance(error, NoOutput)) -/
def t_suite (K : PySem.W.Frag) (NP FE NO : Addr) : Addr → Value → Option Addr → TS := fun a cls d D σ H => cls = .ref NP ∧ d = none ∧
  tAsg (tTup (tCons (tC (.str "none")) (tCons (tAndV (tCB (rIsE K NP a) (tCons (tVar 2) (tCons (tC (.ref FE)) tNil))) (tNotV (tCB (rIsE K NP a) (tCons (tVar 2) (tCons (tC (.ref NO)) tNil))))) tNil))) (gName 1) D σ H
def t_body (K : PySem.W.Frag) (NP : Addr) : WX → TS := fun W => tAsg (tTup (tCons (tC (.str "cells")) (tCons (tCallS (spCells K NP) (WE W) (tCons (tVar 0) tNil)) tNil))) (gName 1)
theorem ok_told {NP : Addr} (Z : Frees mg) (T : ErrTxt K mg NP) (D1 : Cal P w K mg base (L2.CX P w) 5 "cells_in" ["packet"] (spCells K NP)) (D : At K mg "_law_told" (topS 38)) :
    Cal P w K mg base CX0 6 "_law_told" ["_law_thing"] (spTold K) :=
  cal_mk D (fun _ _ _ _ _ _ us hl => match us, hl with | [_], _ => rfl) fun f fd F => by
  refine F.ok scTold (fun vs H Q E h => ?_) (fun cdv A outer s H vs Q E hr h => ?_)
  · obtain ⟨v, d, rfl, _⟩ := h
    rfl
  · obtain ⟨v, d, rfl, hd, fin⟩ := h
    obtain ⟨f1, fd1, G, m1, kp1, b1⟩ := D1.ex
    obtain ⟨FE, gF, kF⟩ := T.fe
    obtain ⟨NO, gN, kN⟩ := T.no
    refine ⟨_, pss_cons (ps_set (i := 1) scTold.nd rfl (Or.inl rfl) pe_non)
      (pss_cons (ps_try_as (i := 2) (c := .ref NP) (tb := t_body K NP) (ts := t_suite K NP FE NO) (Wout := fun _ _ _ _ => False) rfl rfl scTold.nd rfl rfl ⟨rfl, by decide, Or.inl T.e.g⟩ takes0
        (fun W pn xe tk _ => pss_one (ps_set (i := 1) scTold.nd rfl (Or.inl rfl) (by exact (pe_tup (pa_cons pe_str (pa_cons (pe_callS G hr rfl m1 kp1 b1 (fun σ => passAt tk σ) (by exact (pa_cons (pv 0) pa_nil))) pa_nil))))))
        (fun a oe cls d pn hz hf => ⟨fun pins s σ H D I h => ?_⟩))
      (pss_one (ps_ret (pv 1)))), ?_⟩
    · obtain ⟨rfl, rfl, h⟩ := h
      exact (pss_one (ps_set (i := 1) scTold.nd rfl (Or.inl rfl) (by exact (pe_tup (pa_cons pe_str (pa_cons (pe_and (pe_callB (call_isE T.c hz hf) (by rfl) Z.isi (by decide +kernel) (pa_cons (pv 2) (pa_cons (pe_glob (v := .ref FE) rfl gF rfl) pa_nil)))
        (pe_one (pe_not (pe_callB (call_isE T.c hz hf) (by rfl) Z.isi (by decide +kernel) (pa_cons (pv 2) (pa_cons (pe_glob (v := .ref NO) rfl gN rfl) pa_nil)))))) pa_nil)))))).run pins s σ H D I h
    · refine ⟨v, rfl, v, d, rfl, hd, fun pk H' s' => ?_, fun pk H' s' => ?_⟩
      · refine ⟨by show 2 ≤ sizeLine; decide, fun p np => ⟨_, rfl, fin p _ _ (s'.trans (same_new np)) upd_same (fun _ => rfl) (fun z => ?_)⟩⟩
        rw [pk] at z
        cases z
      · refine ⟨true, T.m, fun _ a na => ?_, fun q => Bool.noConfusion q⟩
        refine ⟨rfl, rfl, .ref a, rfl, .ref FE, .ref FE, true, rfl, fun u hu => hu, kF, _, rfl, ?_⟩
        refine ⟨.ref a, rfl, .ref NO, .ref NO, false, rfl, fun u hu => hu, kN, _, rfl, by show 2 ≤ sizeLine; decide, fun p np => ⟨_, rfl, fin p _ _ (s'.trans (same_new np)) upd_same (fun z => ?_) (fun _ => rfl)⟩⟩
        rw [pk] at z
        cases z
end
end Kx

namespace Kx
open PySem PySem.Spec PyProof.Rows L2
section
variable {P : Program} {w : World} {K : PySem.W.Frag} {mg : Str → Option Value} {base : Heap}

theorem sl_barN {dk a : Addr} {H : Hp} {xs : List V} {lo : Option Int} {Q : VK} {σ : L2.St} (hk : H dk ≠ none) (h : SqT K (Bar dk H) a xs) (q : ∀ b H', Same H H' → SqT K (Bar dk H') b (cutV xs lo none) → Q (.ref b) H') : tNoPart σ H fun u H3 => rSlA K (.ref a) lo u H3 Q := by
  unfold tNoPart
  exact sl_bar hk h q
/-! t[:i] + (x,) + t[i + 1:] -/
def tRepG (K : PySem.W.Frag) (te : TE) (i m : Nat) : TE := fun σ H Q => ∃ (dk a : Addr) (xs : List V) (j : Nat) (x : V), (∀ H1 (Q' : VK), Same H H1 → Q' (.ref a) H1 → te σ H1 Q') ∧ σ[i]? = some (some (.int j)) ∧ σ[m]? = some (some x) ∧ H dk ≠ none ∧ SqT K (Bar dk H) a xs ∧ xs.length ≤ 10000 ∧
  ∀ p H', Same H H' → SqT K (Bar dk H') p (xs.take j ++ [x] ++ xs.drop (j + 1)) → Q (.ref p) H'
def tRep (K : PySem.W.Frag) (t i m : Nat) : TE := fun σ H Q => ∃ (dk a : Addr) (xs : List V) (j : Nat) (x : V), σ[t]? = some (some (.ref a)) ∧ σ[i]? = some (some (.int j)) ∧ σ[m]? = some (some x) ∧ H dk ≠ none ∧ SqT K (Bar dk H) a xs ∧ xs.length ≤ 10000 ∧
  ∀ p H', Same H H' → SqT K (Bar dk H') p (xs.take j ++ [x] ++ xs.drop (j + 1)) → Q (.ref p) H'
theorem rep_tail {dk a r : Addr} {H2 : Hp} {xs : List V} {y : V} {n : Nat} {Q : VK} {te : TE} {tl : TO} {σ : L2.St} (hk : H2 dk ≠ none) (ha : SqT K (Bar dk H2) a xs) (hr : SqT K (Bar dk H2) r (xs.take n)) (hz : xs.length ≤ 10000)
    (h1 : ∀ H3 (Q' : VK), Same H2 H3 → Q' (.ref a) H3 → te σ H3 Q') (h2 : ∀ H3 (Q' : Option Int → Hp → Prop), Q' (some ((n : Int) + 1)) H3 → tl σ H3 Q')
    (fin : ∀ p H', Same H2 H' → SqT K (Bar dk H') p (xs.take n ++ [y] ++ xs.drop (n + 1)) → Q (.ref p) H') :
    [y].length ≤ sizeLine ∧ ∀ u, H2 u = none → rCatA K (.ref r) (.ref u) (upd H2 u (.tup [y])) fun x H4 => tSl (rSlA K) te tl tNoPart σ H4 fun z H5 => rCatA K x z H5 Q := by
  refine ⟨by show 1 ≤ sizeLine; decide, fun u nu => ?_⟩
  have su : Same H2 (upd H2 u (.tup [y])) := same_new nu
  refine cat_bar (some_up hk su) (seqT_up (Sm.of su).bar hr) (SqT.of (bar_new hk nu)) (by rw [List.length_take]; show _ + 1 ≤ 100000; omega) fun c H4 s4 hc => ?_
  have s24 := su.trans s4
  refine h1 H4 _ s24 (h2 H4 _ ?_)
  refine sl_barN (some_up hk s24) (seqT_up (Sm.of s24).bar ha) fun e H5 s5 he => ?_
  rw [show ((n : Int) + 1) = ((n + 1 : Nat) : Int) from rfl, cut_from] at he
  refine cat_bar (some_up hk (s24.trans s5)) (seqT_up (Sm.of s5).bar hc) he ?_ fun p H6 s6 hp => fin p H6 ((s24.trans s5).trans s6) hp
  rw [List.length_append, List.length_take, List.length_drop]
  show _ + 1 + _ ≤ 100000
  omega
theorem pe_repG {X : Cx} {te : TE} {i m : Nat} {et ei em et2 ei2 : Expr} {k kk : Nat} {p2 p3 p4 p5 p6 p7 p8 p9 p10 : Pos} (ht : PE X et te) (hi : PE X ei (tVar i)) (hm : PE X em (tVar m)) (ht2 : PE X et2 te) (hi2 : PE X ei2 (tVar i))
    (hst : starEach [em] X.env = (false, eval em X.env) :: starEach [] X.env) :
    PE X (.BinOp (.BinOp (.Subscript et (.Slice none (some ei) none p2) p3) .Add (.Tuple [em] k p4) p5) .Add (.Subscript et2 (.Slice (some (.BinOp ei2 .Add (.Constant (.int 1) kk p6) p7)) none none p8) p9) p10) (tRepG X.K te i m) :=
  PE.use (pe_op op_catA (pe_op op_catA (pe_slice sl_tupA ht po_none (po_some hi)) (pe_tup (pa_cons hm pa_nil hst))) (pe_slice sl_tupA ht2 (po_some (pe_op op_add hi2 pe_int)) po_none)) fun σ H Q h => by
    obtain ⟨dk, a, xs, j, x, e1, e2, e3, hk, ha, hz, fin⟩ := h
    refine e1 H _ (Same.refl H) ⟨.int j, e2, j, rfl, ?_⟩
    refine sl_bar hk ha fun r H1 s1 hr => ?_
    rw [cut_to] at hr
    exact ⟨x, e3, rep_tail (n := j) (some_up hk s1) (seqT_up (Sm.of s1).bar ha) hr hz (fun H3 Q' s3 q' => e1 H3 Q' (s1.trans s3) q') (fun H3 Q' q' => ⟨_, e2, j, 1, rfl, rfl, _, rfl, q'⟩) fun p H' s' hp => fin p H' (s1.trans s') hp⟩
theorem pe_rep {X : Cx} {t i m : Nat} {et ei em et2 ei2 : Expr} {k kk : Nat} {p2 p3 p4 p5 p6 p7 p8 p9 p10 : Pos} (ht : PE X et (tVar t)) (hi : PE X ei (tVar i)) (hm : PE X em (tVar m)) (ht2 : PE X et2 (tVar t)) (hi2 : PE X ei2 (tVar i))
    (hst : starEach [em] X.env = (false, eval em X.env) :: starEach [] X.env) :
    PE X (.BinOp (.BinOp (.Subscript et (.Slice none (some ei) none p2) p3) .Add (.Tuple [em] k p4) p5) .Add (.Subscript et2 (.Slice (some (.BinOp ei2 .Add (.Constant (.int 1) kk p6) p7)) none none p8) p9) p10) (tRep X.K t i m) :=
  PE.use (pe_repG ht hi hm ht2 hi2 hst) fun σ H Q h => by
    obtain ⟨dk, a, xs, j, x, e1, r⟩ := h
    exact ⟨dk, a, xs, j, x, fun H1 Q' _ q' => ⟨_, e1, q'⟩, r⟩
/-- t[:n] + (E,) + t[n + 1:], n written; E may draw -/
def tRepC (K : PySem.W.Frag) (t n : Nat) (te : TE) : TE := fun σ H Q => ∃ (dk a : Addr) (xs : List V) (Y : V → Hp → Prop), σ[t]? = some (some (.ref a)) ∧ H dk ≠ none ∧ SqT K (Bar dk H) a xs ∧ xs.length ≤ 10000 ∧
  (∀ H1 (Q' : VK), Same H H1 → (∀ y H2, Sm dk H1 H2 → H2 dk ≠ none → Y y H2 → Q' y H2) → te σ H1 Q') ∧ ∀ y p H2 H', Sm dk H H2 → Y y H2 → Same H2 H' → SqT K (Bar dk H') p (xs.take n ++ [y] ++ xs.drop (n + 1)) → Q (.ref p) H'
theorem pe_repC {X : Cx} {t n : Nat} {te : TE} {et em et2 : Expr} {k k1 k2 : Nat} {i j : Int} {p2 p3 p4 p5 p6 p7 p8 p9 p10 : Pos} (ei : i = (n : Int)) (ej : j = (n : Int) + 1) (ht : PE X et (tVar t)) (hm : PE X em te) (ht2 : PE X et2 (tVar t))
    (hst : starEach [em] X.env = (false, eval em X.env) :: starEach [] X.env) :
    PE X (.BinOp (.BinOp (.Subscript et (.Slice none (some (.Constant (.int i) k1 p6)) none p2) p3) .Add (.Tuple [em] k p4) p5) .Add (.Subscript et2 (.Slice (some (.Constant (.int j) k2 p7)) none none p8) p9) p10) (tRepC X.K t n te) := by
  subst ei ej
  refine PE.use (pe_op op_catA (pe_op op_catA (pe_slice sl_tupA ht po_none (po_some pe_int)) (pe_tup (pa_cons hm pa_nil hst))) (pe_slice sl_tupA ht2 (po_some pe_int) po_none)) fun σ H Q h => ?_
  obtain ⟨dk, a, xs, Y, e1, hk, ha, hz, run, fin⟩ := h
  refine ⟨.ref a, e1, n, rfl, ?_⟩
  refine sl_bar hk ha fun r H1 s1 hr => ?_
  rw [cut_to] at hr
  refine run H1 _ s1 fun y H2 s2 hk2 hy => ?_
  exact rep_tail (n := n) hk2 (seqT_up ((Sm.of s1).trans s2).bar ha) (seqT_up s2.bar hr) hz (fun H3 Q' _ q' => ⟨_, e1, q'⟩) (fun H3 Q' q' => ⟨_, rfl, q'⟩) fun p H' s' hp => fin y p H2 H' ((Sm.of s1).trans s2) hy s' hp
/-! a menu: [..][draw(deck, m)] -/
theorem menu_tail {σ : L2.St} {d : Nat} {dk q : Addr} {ns : List Int} {m : Int} {xs : List V} {H1 : Hp} {Q : VK} (hd : σ[d]? = some (some (.ref dk))) (hm : ((xs.length : Nat) : Int) = m) (h0 : 0 < xs.length) (h1 : xs.length ≤ 1000) (D : Dk ns dk q H1)
    (fin : ∀ (j : Nat) v H2, xs[j]? = some v → Sm dk H1 H2 → Dk ns dk q H2 → Q v H2) :
    xs.length ≤ sizeLine ∧ ∀ l, H1 l = none → tCall spDraw [] E0 (tCons (tVar d) (tCons (tC (.int m)) tNil)) σ (upd H1 l (.lst xs)) fun y H2 => rIxL K (.ref l) y H2 Q := by
  refine ⟨small_line (by omega), fun l nl => ?_⟩
  have sl := same_new (o := .lst xs) nl
  refine ⟨.ref dk, hd, dk, q, m, ns, rfl, by omega, by omega, D.up sl, fun r H2 r0 r1 u2 d2 => ?_⟩
  have el := (u2 l (D.off nl).1).trans (upd_same (H := H1) (o := .lst xs))
  obtain ⟨j, rfl⟩ := Int.eq_ofNat_of_zero_le r0
  have hj : j < xs.length := by omega
  have g := List.getElem?_eq_getElem hj
  exact ⟨l, xs, j, _, rfl, rfl, SqL.of el, atI_nat g, fin j _ H2 g ((Sm.of sl).trans u2.sm) d2⟩
theorem fa_nil {Pv : V → Prop} : ∀ x ∈ ([] : List V), Pv x := fun x h => absurd h (List.not_mem_nil)
theorem fa_cons {Pv : V → Prop} {a : V} {l : List V} (h : Pv a) (r : ∀ x ∈ l, Pv x) : ∀ x ∈ a :: l, Pv x := fun x hx => by
  rcases List.mem_cons.mp hx with e | hx
  · rw [e]; exact h
  · exact r x hx
theorem fa_at {Pv : V → Prop} {xs : List V} {j : Nat} {v : V} (g : xs[j]? = some v) (h : ∀ x ∈ xs, Pv x) : Pv v := h v (List.mem_of_getElem? g)

/-! _law_changed -/
theorem scCh : FnScope ["_law_deck_here", "_law_thing", "_law_at", "_law_many", "_law_words", "_law_here", "_law_word_here"] ["_law_deck_here", "_law_thing"] (defScope (topS 36)) := ⟨rfl, rfl, rfl, by decide +kernel, rfl, by decide +kernel, by decide +kernel⟩
def spCh (K : PySem.W.Frag) : Sp := fun vs H Q _ => ∃ (dk q : Addr) (ns : List Int) (v : V) (a b c e : Int) (ws : List Int), vs = [.ref dk, v] ∧ Dk ns dk q H ∧ Dp K (Bar dk H) v (ldOf a b c ws e) ∧ 1 ≤ ws.length ∧ ws.length ≤ 1000 ∧
  ∀ (p : Addr) (a' b' c' e' : Int) (us : List Int) (H' : Hp), Sm dk H H' → Dk ns dk q H' → Dp K (Bar dk H') (.ref p) (ldOf a' b' c' us e') → us.length ≤ 2 * ws.length + 1 → Q (.ref p) H'
theorem ok_ch (Z : Frees mg) (D1 : Cal P w K mg base CX0 2 "_law_draw" ["_law_deck_here", "_law_many"] spDraw) (D : At K mg "_law_changed" (topS 36)) : Cal P w K mg base CX0 3 "_law_changed" ["_law_deck_here", "_law_thing"] (spCh K) :=
  cal_mk D (fun _ _ _ _ _ _ us hl => match us, hl with | [_, _], _ => rfl) fun f fd F => by
  refine F.ok scCh (fun vs H Q E h => ?_) (fun cdv A outer s H vs Q E hr h => ?_)
  · obtain ⟨dk, q, ns, v, a, b, c, e, ws, rfl, _⟩ := h
    rfl
  · obtain ⟨dk, q, ns, v, a, b, c, e, ws, rfl, hD, hd, w1, w1000, fin⟩ := h
    obtain ⟨p, t, rfl, hp, ht⟩ := bar_ld hd
    refine ⟨_, pss_cons (ps_set (i := 2) scCh.nd rfl (Or.inl rfl) (pe_cal D1 hr (by decide) rfl (pa_cons (pv 0) (pa_cons pe_int pa_nil))))
      (pss_cons (ps_if (pt_cmpR op_lt (pv 2) pe_int (nomark _))
        (pss_cons (ps_set (i := 3) scCh.nd rfl (Or.inl rfl) (pe_ix ix_list (pe_lst (pa_cons pe_int (pa_cons pe_int (pa_cons pe_int (pa_cons pe_int (pa_cons pe_int (pa_cons (pe_op op_pow pe_int pe_int) (pa_cons (pe_op op_add (pe_op op_pow pe_int pe_int) pe_int)
          (pa_cons (pe_cal D1 hr (by decide) rfl (pa_cons (pv 0) (pa_cons pe_int pa_nil))) pa_nil))))))))) (pe_cal D1 hr (by decide) rfl (pa_cons (pv 0) (pa_cons pe_int pa_nil))) (fun _ _ => rfl)))
        (pss_one (ps_ret (pe_rep (t := 1) (i := 2) (m := 3) (pv 1) (pv 2) (pv 3) (pv 1) (pv 2) rfl)))) pss_nil)
      (pss_cons (ps_set (i := 4) scCh.nd rfl (Or.inl rfl) (pe_ix ix_tup (pv 1) pe_int (fun _ _ => rfl)))
      (pss_cons (ps_if (pt_cmpR op_eq (pv 2) pe_int (nomark _))
        (pss_cons (ps_set (i := 5) scCh.nd rfl (Or.inl rfl) (pe_cal D1 hr (by decide) rfl (pa_cons (pv 0) (pa_cons (pe_callB call_len_seq (by rfl) Z.len PySem.boot_len (pa_cons (pv 4) pa_nil)) pa_nil))))
        (pss_cons (ps_set (i := 6) scCh.nd rfl (Or.inl rfl) (pe_ix ix_list (pe_lst (pa_cons pe_int (pa_cons pe_int (pa_cons pe_int (pa_cons (pe_un un_neg pe_int) (pa_cons (pe_cal D1 hr (by decide) rfl (pa_cons (pv 0) (pa_cons pe_int pa_nil))) pa_nil))))))
          (pe_cal D1 hr (by decide) rfl (pa_cons (pv 0) (pa_cons pe_int pa_nil))) (fun _ _ => rfl)))
        (pss_one (ps_ret (pe_repC (t := 1) (n := 3) rfl rfl (pv 1) (pe_rep (t := 4) (i := 5) (m := 6) (pv 4) (pv 5) (pv 6) (pv 4) (pv 5) rfl) (pv 1) rfl))))) pss_nil)
      (pss_cons (ps_if (pt_cmpR op_eq (pv 2) pe_int (nomark _))
        (pss_one (ps_ret (pe_repC (t := 1) (n := 3) rfl rfl (pv 1) (pe_ix ix_list (pe_lst (pa_cons (pe_slice sl_tupA (pv 4) (po_some pe_int) po_none) (pa_cons (pe_op op_catA (pv 4) (pe_tup (pa_cons pe_int pa_nil))) (pa_cons (pe_slice sl_tupA (pv 4) po_none (po_some pe_int))
          (pa_cons (pe_op op_catA (pv 4) (pv 4)) pa_nil))))) (pe_cal D1 hr (by decide) rfl (pa_cons (pv 0) (pa_cons pe_int pa_nil))) (fun _ _ => rfl)) (pv 1) rfl))) pss_nil)
      (pss_one (ps_ret (pe_op op_catA (pe_slice sl_tupA (pv 1) po_none (po_some pe_int)) (pe_tup (pa_cons (pe_op op_add (pe_ix ix_tup (pv 1) pe_int (fun _ _ => rfl))
        (pe_ix ix_list (pe_lst (pa_cons pe_int (pa_cons (pe_un un_neg pe_int) (pa_cons pe_int (pa_cons (pe_un un_neg pe_int) (pa_cons pe_int pa_nil)))))) (pe_cal D1 hr (by decide) rfl (pa_cons (pv 0) (pa_cons pe_int pa_nil))) (fun _ _ => rfl))) pa_nil))))))))), ?_⟩
    refine ⟨.ref dk, rfl, dk, q, 7, ns, rfl, by decide, by decide, hD, fun r H1 r0 r1 u1 d1 => ?_⟩
    have s1 := u1.sm
    obtain ⟨j, rfl⟩ := Int.eq_ofNat_of_zero_le r0
    refine ⟨.int j, rfl, j, 3, rfl, rfl, _, rfl, ite2 (fun c0 => ?_) (fun c0 => ?_)⟩
    · have hj : j < 3 := by have z := of_decide_eq_true c0; omega
      refine ⟨10, 9, rfl, rfl, ⟨by decide, by decide, by decide⟩, 10, 9, rfl, rfl, ⟨by decide, by decide, by decide⟩, _, 1, rfl, rfl, .ref dk, rfl, dk, q, 12, ns, rfl, by decide, by decide, d1, fun m H2 _ _ u2 d2 => ?_⟩
      refine menu_tail (d := 0) rfl rfl (Nat.succ_pos _) (by show 8 ≤ 1000; decide) d2 fun i v H3 hv s3 d3 => ?_
      obtain ⟨m', rfl⟩ := fa_at (Pv := fun v => ∃ m, v = .int m) hv (fa_cons ⟨_, rfl⟩ (fa_cons ⟨_, rfl⟩ (fa_cons ⟨_, rfl⟩ (fa_cons ⟨_, rfl⟩ (fa_cons ⟨_, rfl⟩ (fa_cons ⟨_, rfl⟩ (fa_cons ⟨_, rfl⟩ (fa_cons ⟨_, rfl⟩ fa_nil))))))))
      have s13 := (s1.trans u2.sm).trans s3
      refine ⟨dk, p, _, j, .int m', rfl, rfl, rfl, d3.some, seqT_up s13.bar hp, by show 5 ≤ 10000; decide, fun p' H4 s4 h4 => ?_⟩
      have t4 := seqT_up (s13.trans (Sm.of s4)).bar ht
      have cj : j = 0 ∨ j = 1 ∨ j = 2 := by omega
      rcases cj with rfl | rfl | rfl
      · exact fin p' m' b c e ws H4 (s13.trans (Sm.of s4)) (d3.up s4) (ld_bar h4 t4) (by omega)
      · exact fin p' a m' c e ws H4 (s13.trans (Sm.of s4)) (d3.up s4) (ld_bar h4 t4) (by omega)
      · exact fin p' a b m' e ws H4 (s13.trans (Sm.of s4)) (d3.up s4) (ld_bar h4 t4) (by omega)
    have hp1 := seqT_up s1.bar hp
    have ht1 := seqT_up s1.bar ht
    refine ⟨.ref p, rfl, p, _, 3, .ref t, rfl, rfl, seqT_up Bar_le hp1, atI_nat (j := 3) rfl, .int j, rfl, rfl, _, rfl, ite2 (fun c1 => ?_) (fun c1 => ?_)⟩
    · refine ⟨.ref dk, rfl, .ref t, rfl, t, _, rfl, .inr (seqT_up Bar_le ht1), dk, q, _, ns, rfl, ?_, ?_, d1, fun h H2 h0 h1 u2 d2 => ?_⟩
      · rw [List.length_map]
        omega
      · rw [List.length_map]
        omega
      rw [List.length_map] at h1
      obtain ⟨i, rfl⟩ := Int.eq_ofNat_of_zero_le h0
      refine ⟨_, rfl, .ref dk, rfl, dk, q, 256, ns, rfl, by decide, by decide, d2, fun m H3 _ _ u3 d3 => ?_⟩
      refine menu_tail (d := 0) rfl rfl (Nat.succ_pos _) (by show 5 ≤ 1000; decide) d3 fun i2 v H4 hv s4 d4 => ?_
      obtain ⟨m', rfl⟩ := fa_at (Pv := fun v => ∃ m, v = .int m) hv (fa_cons ⟨_, rfl⟩ (fa_cons ⟨_, rfl⟩ (fa_cons ⟨_, rfl⟩ (fa_cons ⟨_, rfl⟩ (fa_cons ⟨_, rfl⟩ fa_nil)))))
      have s14 := ((s1.trans u2.sm).trans u3.sm).trans s4
      have eus : (ws.map V.int).take i ++ [V.int m'] ++ (ws.map V.int).drop (i + 1) = (ws.take i ++ [m'] ++ ws.drop (i + 1)).map V.int := by
        rw [List.map_append, List.map_append, List.map_take, List.map_drop]
        rfl
      refine ⟨dk, p, _, fun y H2 => Dk ns dk q H2 ∧ ∃ r, y = .ref r ∧ SqT K (Bar dk H2) r ((ws.take i ++ [m'] ++ ws.drop (i + 1)).map V.int), rfl, d4.some, seqT_up s14.bar hp, by show 5 ≤ 10000; decide, fun H5 Q' s5 k => ?_, ?_⟩
      · refine ⟨dk, t, _, i, .int m', rfl, rfl, rfl, some_up d4.some s5, seqT_up (s14.trans (Sm.of s5)).bar ht, by rw [List.length_map]; omega, fun p' H6 s6 h6 => k _ _ (Sm.of s6) (some_up (some_up d4.some s5) s6) ⟨d4.up (s5.trans s6), p', rfl, ?_⟩⟩
        rw [← eus]
        exact h6
      · rintro y p' H6 H7 s6 ⟨d6, r', rfl, hr'⟩ s7 h7
        refine fin p' a b c e _ H7 ((s14.trans s6).trans (Sm.of s7)) (d6.up s7) (ld_bar h7 (seqT_up (Sm.of s7).bar hr')) ?_
        rw [List.length_append, List.length_append, List.length_take, List.length_drop]
        show _ + 1 + _ ≤ _
        omega
    refine ⟨.int j, rfl, rfl, _, rfl, ite2 (fun c2 => ?_) (fun c2 => ?_)⟩
    · -- another row of words
      refine ⟨dk, p, _, fun y H2 => Dk ns dk q H2 ∧ ∃ (r : Addr) (us : List Int), y = .ref r ∧ SqT K (Bar dk H2) r (us.map V.int) ∧ us.length ≤ 2 * ws.length + 1, rfl, d1.some, hp1, by show 5 ≤ 10000; decide, fun H2 Q' s2 k => ?_, ?_⟩
      · have d2 := d1.up s2
        have ht2 := seqT_up (Sm.of s2).bar ht1
        refine ⟨.ref t, rfl, _, rfl, ?_⟩
        refine sl_barN d2.some ht2 fun x1 H3 s3 h3 => ?_
        have d3 := d2.up s3
        have ht3 := seqT_up (Sm.of s3).bar ht2
        rw [show cutV (ws.map V.int) (some 1) none = (ws.map V.int).drop 1 from cut_from _ 1, ← List.map_drop] at h3
        refine ⟨.ref t, rfl, by show 1 ≤ sizeLine; decide, fun u nu => ?_⟩
        have su : Same H3 (upd H3 u (.tup [.int 0])) := same_new nu
        refine cat_bar (some_up d3.some su) (seqT_up (Sm.of su).bar ht3) (SqT.of (bar_new d3.some nu)) (by rw [List.length_map]; show _ + 1 ≤ 100000; omega) fun x2 H4 s4 h4 => ?_
        have d4 := (d3.up su).up s4
        have s34 := su.trans s4
        have ht4 := seqT_up (Sm.of s34).bar ht3
        rw [show ws.map V.int ++ [V.int 0] = (ws ++ [0]).map V.int by rw [List.map_append]; rfl] at h4
        refine ⟨.ref t, rfl, _, rfl, ?_⟩
        refine sl_bar d4.some ht4 fun x3 H5 s5 h5 => ?_
        have d5 := d4.up s5
        have ht5 := seqT_up (Sm.of s5).bar ht4
        rw [show cutV (ws.map V.int) none (some 1) = (ws.map V.int).take 1 from cut_to _ 1, ← List.map_take] at h5
        refine ⟨.ref t, rfl, .ref t, rfl, ?_⟩
        refine cat_bar d5.some ht5 ht5 (by rw [List.length_map]; omega) fun x4 H6 s6 h6 => ?_
        have d6 := d5.up s6
        rw [← List.map_append] at h6
        have a1 := seqT_up (Sm.of ((s34.trans s5).trans s6)).bar h3
        have a2 := seqT_up (Sm.of (s5.trans s6)).bar h4
        have a3 := seqT_up (Sm.of s6).bar h5
        refine menu_tail (d := 0) rfl rfl (Nat.succ_pos _) (by show 4 ≤ 1000; decide) d6 fun i v H7 hv s7 d7 => ?_
        have s26 : Same H2 H6 := ((s3.trans s34).trans s5).trans s6
        obtain ⟨r, us, rfl, hr, hl⟩ := fa_at (Pv := fun v => ∃ (r : Addr) (us : List Int), v = .ref r ∧ SqT K (Bar dk H6) r (us.map V.int) ∧ us.length ≤ 2 * ws.length + 1) hv
          (fa_cons ⟨x1, _, rfl, a1, by rw [List.length_drop]; omega⟩ (fa_cons ⟨x2, _, rfl, a2, by rw [List.length_append]; show _ + 1 ≤ _; omega⟩ (fa_cons ⟨x3, _, rfl, a3, by rw [List.length_take]; omega⟩ (fa_cons ⟨x4, _, rfl, h6, by rw [List.length_append]; omega⟩ fa_nil))))
        exact k _ H7 ((Sm.of s26).trans s7) d7.some ⟨d7, r, us, rfl, seqT_up s7.bar hr, hl⟩
      · rintro y p' H2 H3 s2 ⟨d2, r, us, rfl, hr, hl⟩ s3 h3
        exact fin p' a b c e us H3 ((s1.trans s2).trans (Sm.of s3)) (d2.up s3) (ld_bar h3 (seqT_up (Sm.of s3).bar hr)) hl
    · -- another check
      refine ⟨.ref p, rfl, _, rfl, ?_⟩
      refine sl_bar d1.some hp1 fun x1 H2 s2 h2 => ?_
      have d2 := d1.up s2
      have hp2 := seqT_up (Sm.of s2).bar hp1
      rw [show cutV [V.int a, .int b, .int c, .ref t, .int e] none (some 4) = [.int a, .int b, .int c, .ref t] from cut_to _ 4] at h2
      refine ⟨.ref p, rfl, p, _, 4, .int e, rfl, rfl, seqT_up Bar_le hp2, atI_nat (j := 4) rfl, _, rfl, _, rfl, ?_⟩
      refine menu_tail (d := 0) rfl rfl (Nat.succ_pos _) (by show 5 ≤ 1000; decide) d2 fun i v H3 hv s3 d3 => ?_
      obtain ⟨m', rfl⟩ := fa_at (Pv := fun v => ∃ m, v = .int m) hv (fa_cons ⟨_, rfl⟩ (fa_cons ⟨_, rfl⟩ (fa_cons ⟨_, rfl⟩ (fa_cons ⟨_, rfl⟩ (fa_cons ⟨_, rfl⟩ fa_nil)))))
      refine ⟨e, m', rfl, rfl, by show 1 ≤ sizeLine; decide, fun u nu => ?_⟩
      have su : Same H3 (upd H3 u (.tup [.int (e + m')])) := same_new nu
      refine cat_bar (some_up d3.some su) (seqT_up (Sm.of su).bar (seqT_up s3.bar h2)) (SqT.of (bar_new d3.some nu)) (by show 4 + 1 ≤ 100000; decide) fun x2 H4 s4 h4 => ?_
      have s14 := (((s1.trans (Sm.of s2)).trans s3).trans (Sm.of su)).trans (Sm.of s4)
      exact fin x2 a b c (e + m') ws H4 s14 ((d3.up su).up s4) (ld_bar h4 (seqT_up s14.bar ht)) (by omega)
end
end Kx

namespace Kx
open PySem PySem.Spec PyProof.Rows L2
section
variable {P : Program} {w : World} {K : PySem.W.Frag} {mg : Str → Option Value} {base : Heap}

/-! _law_odd -/
def Dt (K : PySem.W.Frag) (dk : Addr) (H : Hp) (v : V) : Prop := ∃ d, Dp K (Bar dk H) v d
theorem Dt.up {dk : Addr} {H H' : Hp} {v : V} (s : Sm dk H H') (h : Dt K dk H v) : Dt K dk H' v := by
  obtain ⟨d, h⟩ := h
  exact ⟨d, dp_up s.bar d v h⟩
theorem dpa_cut {H : Hp} {xs : List V} {ds : List PyData} {lo hi : Option Int} (h : DpAll K H xs ds) : ∃ es, DpAll K H (cutV xs lo hi) es := ⟨_, dpa_take _ (dpa_drop _ h)⟩
theorem scOdd : FnScope ["_law_deck_here", "_law_thing", "_law_at", "_law_some", "_law_odd_here", "_law_changed_here"] ["_law_deck_here", "_law_thing"] (defScope (topS 37)) := ⟨rfl, rfl, rfl, by decide +kernel, rfl, by decide +kernel, by decide +kernel⟩
def spOdd (K : PySem.W.Frag) : Sp := fun vs H Q _ => ∃ (dk q : Addr) (ns : List Int) (v : V) (ds : List PyData), vs = [.ref dk, v] ∧ Dk ns dk q H ∧ Dp K (Bar dk H) v (.tuple ds) ∧ 1 ≤ ds.length ∧ ds.length ≤ 100 ∧
  ∀ (v' : V) (H' : Hp), Sm dk H H' → Dk ns dk q H' → Dt K dk H' v' → Q v' H'
theorem ok_odd (Z : Frees mg) (D1 : Cal P w K mg base CX0 2 "_law_draw" ["_law_deck_here", "_law_many"] spDraw) (D : At K mg "_law_odd" (topS 37)) : Cal P w K mg base CX0 3 "_law_odd" ["_law_deck_here", "_law_thing"] (spOdd K) :=
  cal_mk D (fun _ _ _ _ _ _ us hl => match us, hl with | [_, _], _ => rfl) fun f fd F => by
  refine F.ok scOdd (fun vs H Q E h => ?_) (fun cdv A outer s H vs Q E hr h => ?_)
  · obtain ⟨dk, q, ns, v, ds, rfl, _⟩ := h
    rfl
  · obtain ⟨dk, q, ns, v, ds, rfl, hD, hd, l1, l100, fin⟩ := h
    obtain ⟨a, xs, rfl, ha, hx⟩ := dp_tup hd
    have hl := dpa_len hx
    refine ⟨_, pss_cons (ps_set (i := 2) scOdd.nd rfl (Or.inl rfl) (pe_cal D1 hr (by decide) rfl (pa_cons (pv 0) (pa_cons (pe_callB call_len_seq (by rfl) Z.len PySem.boot_len (pa_cons (pv 1) pa_nil)) pa_nil))))
      (pss_cons (ps_set (i := 3) scOdd.nd rfl (Or.inl rfl) (pe_ix ix_list (pe_lst (pa_cons pe_non (pa_cons pe_bl (pa_cons pe_bl (pa_cons pe_str (pa_cons (pe_tup pa_nil) (pa_cons (pe_lst pa_nil) (pa_cons (pe_tup (pa_cons pe_int pa_nil)) (pa_cons (pe_un un_neg pe_int) (pa_cons pe_int pa_nil))))))))))
        (pe_cal D1 hr (by decide) rfl (pa_cons (pv 0) (pa_cons pe_int pa_nil))) (fun _ _ => rfl)))
      (pss_cons (ps_set (i := 4) scOdd.nd rfl (Or.inl rfl) (pe_lst (pa_cons (pe_callTy call_list_of (by rfl) Z.list (by decide +kernel) (pa_cons (pv 1) pa_nil)) (pa_cons (pe_slice sl_tupA (pv 1) po_none (po_some (pe_un un_neg pe_int)))
        (pa_cons (pe_op op_catA (pv 1) (pe_tup (pa_cons pe_int pa_nil))) (pa_cons pe_non (pa_cons pe_int (pa_cons (pe_tup (pa_cons (pv 1) pa_nil)) pa_nil))))))))
      (pss_cons (ps_set (i := 5) scOdd.nd rfl (Or.inl rfl) (pe_rep (t := 1) (i := 2) (m := 3) (pv 1) (pv 2) (pv 3) (pv 1) (pv 2) rfl))
      (pss_one (ps_ret (pe_ix ix_list (pe_lst (pa_cons (pe_ix ix_list (pv 4) (pe_cal D1 hr (by decide) rfl (pa_cons (pv 0) (pa_cons pe_int pa_nil))) (fun _ _ => rfl)) (pa_cons (pv 5) (pa_cons (pv 5) (pa_cons (pv 5) pa_nil)))))
        (pe_cal D1 hr (by decide) rfl (pa_cons (pv 0) (pa_cons pe_int pa_nil))) (fun _ _ => rfl))))))), ?_⟩
    refine ⟨.ref dk, rfl, .ref a, rfl, a, xs, rfl, .inr (seqT_up Bar_le ha), dk, q, _, ns, rfl, by omega, by omega, hD, fun r H1 r0 r1 u1 d1 => ?_⟩
    obtain ⟨j, rfl⟩ := Int.eq_ofNat_of_zero_le r0
    have hj : j < xs.length := by omega
    have s1 := u1.sm
    -- some
    refine ⟨Nat.zero_le _, fun p1 n1 => ⟨Nat.zero_le _, fun p2 n2 => ⟨by show 1 ≤ sizeLine; decide, fun p3 n3 => ⟨_, rfl, ?_⟩⟩⟩⟩
    have e1 := same_new (o := .tup []) n1
    have e2 := same_new (o := .lst []) n2
    have e3 := same_new (o := .tup [.int 1]) n3
    have d4 := ((d1.up e1).up e2).up e3
    have k1 := d1.some
    have k2 := some_up k1 e1
    have k3 := some_up k2 e2
    have b1 := bar_new (o := .tup []) k1 n1
    have b2 := bar_new (o := .lst []) k2 n2
    have b3 := bar_new (o := .tup [.int 1]) k3 n3
    refine menu_tail (d := 0) rfl rfl (Nat.succ_pos _) (by show 9 ≤ 1000; decide) d4 fun i y H5 hy s5 d5 => ?_
    have hy4 : Dt K dk _ y := fa_at (Pv := Dt K dk _) hy (fa_cons ⟨_, .non⟩ (fa_cons ⟨_, .bl true⟩ (fa_cons ⟨_, .bl false⟩ (fa_cons ⟨_, .str _⟩ (fa_cons ⟨_, .tup (seqT_up (Sm.of (e2.trans e3)).bar (SqT.of b1)) .nil⟩
      (fa_cons ⟨_, .lst ((Sm.of e3).bar.seq (SqL.of b2)) .nil⟩ (fa_cons ⟨_, .tup (SqT.of b3) (.cons (.int 1) .nil)⟩ (fa_cons ⟨_, .int _⟩ (fa_cons ⟨_, .int 0⟩ fa_nil)))))))))
    have hy5 := hy4.up s5
    have s15 : Sm dk H H5 := (s1.trans (Sm.of ((e1.trans e2).trans e3))).trans s5
    have ha5 := seqT_up s15.bar ha
    have hx5 := dpa_up s15.bar _ _ hx
    -- odd
    refine ⟨.ref a, rfl, a, xs, rfl, .inr (seqT_up Bar_le ha5), fun p6 n6 => ?_⟩
    have e6 := same_new (o := .lst xs) n6
    have d6 := d5.up e6
    have b6 := bar_new (o := .lst xs) d5.some n6
    have v6 : Dt K dk _ (.ref p6) := ⟨_, .lst (SqL.of b6) (dpa_up (Sm.of e6).bar _ _ hx5)⟩
    have ha6 := seqT_up (Sm.of e6).bar ha5
    have hx6 := dpa_up (Sm.of e6).bar _ _ hx5
    refine ⟨.ref a, rfl, 1, rfl, _, rfl, ?_⟩
    refine sl_bar d6.some ha6 fun p7 H7 s7 h7 => ?_
    have d7 := d6.up s7
    have ha7 := seqT_up (Sm.of s7).bar ha6
    have hx7 := dpa_up (Sm.of s7).bar _ _ hx6
    obtain ⟨es, hes⟩ := dpa_cut (lo := none) (hi := some (-1)) hx7
    have v7 : Dt K dk H7 (.ref p7) := ⟨_, .tup h7 hes⟩
    refine ⟨.ref a, rfl, by show 1 ≤ sizeLine; decide, fun p8 n8 => ?_⟩
    have e8 := same_new (o := .tup [.int 0]) n8
    have b8 := bar_new (o := .tup [.int 0]) d7.some n8
    refine cat_bar (some_up d7.some e8) (seqT_up (Sm.of e8).bar ha7) (SqT.of b8) (by show xs.length + 1 ≤ 100000; omega) fun p9 H9 s9 h9 => ?_
    have s79 := e8.trans s9
    have d9 := d7.up s79
    have ha9 := seqT_up (Sm.of s79).bar ha7
    have hx9 := dpa_up (Sm.of s79).bar _ _ hx7
    have v9 : Dt K dk H9 (.ref p9) := ⟨_, .tup h9 (dpa_app hx9 (.cons (.int 0) .nil))⟩
    refine ⟨.ref a, rfl, by show 1 ≤ sizeLine; decide, fun p10 n10 => ⟨by show 6 ≤ sizeLine; decide, fun L nL => ?_⟩⟩
    have e10 := same_new (o := .tup [.ref a]) n10
    have b10 := bar_new (o := .tup [.ref a]) d9.some n10
    have v10 : Dt K dk _ (.ref p10) := ⟨_, .tup (SqT.of b10) (.cons (.tup (seqT_up (Sm.of e10).bar ha9) (dpa_up (Sm.of e10).bar _ _ hx9)) .nil)⟩
    have d10 := d9.up e10
    have eL := same_new (o := .lst [.ref p6, .ref p7, .ref p9, .non, .int 7, .ref p10]) nL
    have bL := bar_new (o := .lst [.ref p6, .ref p7, .ref p9, .non, .int 7, .ref p10]) d10.some nL
    have d11 := d10.up eL
    have s5L : Same H5 _ := (((e6.trans s7).trans s79).trans e10).trans eL
    have s1L := s15.trans (Sm.of s5L)
    have items : ∀ x ∈ [V.ref p6, .ref p7, .ref p9, .non, .int 7, .ref p10], Dt K dk _ x := fa_cons (v6.up (Sm.of (((s7.trans s79).trans e10).trans eL))) (fa_cons (v7.up (Sm.of ((s79.trans e10).trans eL))) (fa_cons (v9.up (Sm.of (e10.trans eL)))
      (fa_cons ⟨_, .non⟩ (fa_cons ⟨_, .int 7⟩ (fa_cons (v10.up (Sm.of eL)) fa_nil)))))
    -- changed
    refine ⟨dk, a, xs, j, y, rfl, rfl, rfl, d11.some, seqT_up s1L.bar ha, by omega, fun p12 H12 s12 h12 => ?_⟩
    have d12 := d11.up s12
    have s1_12 := s1L.trans (Sm.of s12)
    have hx12 := dpa_up s1_12.bar _ _ hx
    have hy12 := hy5.up (Sm.of (s5L.trans s12))
    obtain ⟨yd, hyd⟩ := hy12
    have v12 : Dt K dk H12 (.ref p12) := ⟨_, .tup h12 (dpa_app (dpa_app (dpa_take j hx12) (.cons hyd .nil)) (dpa_drop (j + 1) hx12))⟩
    have bL12 := (Sm.of s12).bar _ _ bL
    -- the last menu
    refine ⟨.ref L, rfl, .ref dk, rfl, dk, q, 6, ns, rfl, by decide, by decide, d12, fun r H13 r0 r1 u13 d13 => ?_⟩
    obtain ⟨i2, rfl⟩ := Int.eq_ofNat_of_zero_le r0
    have hi2 : i2 < 6 := by omega
    have bL13 := Bar_le _ _ (u13.sm.bar _ _ bL12)
    have g := List.getElem?_eq_getElem (l := [V.ref p6, .ref p7, .ref p9, .non, .int 7, .ref p10]) (i := i2) hi2
    have vz := (fa_at g items).up ((Sm.of s12).trans u13.sm)
    refine ⟨L, _, i2, _, rfl, rfl, SqL.of bL13, atI_nat g, .ref p12, rfl, .ref p12, rfl, .ref p12, rfl, ?_⟩
    refine menu_tail (d := 0) rfl rfl (Nat.succ_pos _) (by show 4 ≤ 1000; decide) d13 fun i3 u H14 hu s14 d14 => ?_
    have v13 := v12.up u13.sm
    have vu := (fa_at hu (fa_cons vz (fa_cons v13 (fa_cons v13 (fa_cons v13 fa_nil))))).up s14
    exact fin u H14 ((s1_12.trans u13.sm).trans s14) d14 vu
end
end Kx

namespace Kx
open PySem PySem.Spec PyProof.Rows L2
section
variable {P : Program} {w : World} {K : PySem.W.Frag} {mg : Str → Option Value} {base : Heap}

theorem PT.use {X : Cx} {e : Expr} {t t' : TT} (h : PT X e t) (i : ∀ σ H Q, t' σ H Q → t σ H Q) : PT X e t' := ⟨fun pins s σ H Q I w => h.run pins s σ H Q I (i σ H Q w)⟩
theorem PSs.use {X : Cx} {ss : List Stmt} {t t' : TS} (h : PSs X ss t) (i : ∀ D σ H, t' D σ H → t D σ H) : PSs X ss t' := ⟨fun pins s σ H D I w => h.run pins s σ H D I (i D σ H w)⟩
theorem pk_ok {s k : Int} {os ws : List Int} (h : Pk s k os ws) : packet (pkOf s k os ws) = true := by
  have all : (ws.map PyData.int).all (wIn 0 255) = true := by
    rw [List.all_eq_true]
    intro d hd
    obtain ⟨x, hx, rfl⟩ := List.mem_map.mp hd
    have z := h.wb x hx
    exact wIn_mk z.1 (by omega)
  show (wIn 0 99 (.int s) && (wIn 0 7 (.int k) && (lotFrom 12 (-1) (os.map PyData.int) && ((decide (1 ≤ (os.map PyData.int).length) && decide ((os.map PyData.int).length ≤ 3)) && ((decide (1 ≤ (ws.map PyData.int).length) && decide ((ws.map PyData.int).length ≤ 40)) && (ws.map PyData.int).all (wIn 0 255)))))) = true
  have a1 := h.s0
  have a2 := h.s1
  have a3 := h.k0
  have a4 := h.k1
  rw [wIn_mk a1 (show s ≤ 99 by omega), wIn_mk a3 (show k ≤ 7 by omega), h.o, all, List.length_map, List.length_map, decide_eq_true h.o1, decide_eq_true h.o3, decide_eq_true h.w1, decide_eq_true h.w40]
  rfl
theorem bar_pk {dk : Addr} {H : Hp} {v : V} {s k : Int} {os ws : List Int} (h : Dp K (Bar dk H) v (pkOf s k os ws)) :
    ∃ p o t, v = .ref p ∧ SqT K (Bar dk H) p [.int s, .int k, .ref o, .ref t] ∧ SqT K (Bar dk H) o (os.map V.int) ∧ SqT K (Bar dk H) t (ws.map V.int) := by
  obtain ⟨p, xs, rfl, ht, ha⟩ := dp_tup h
  obtain ⟨x, y, z, u, rfl, h1, h2, h3, h4⟩ := dpa4 ha
  obtain ⟨o, zs, rfl, ht3, ha3⟩ := dp_tup h3
  obtain ⟨t, ys, rfl, ht4, ha4⟩ := dp_tup h4
  obtain rfl := dp_int h1
  obtain rfl := dp_int h2
  obtain rfl := dpa_vints ha3
  obtain rfl := dpa_vints ha4
  exact ⟨p, o, t, rfl, ht, ht3, ht4⟩
theorem cells_pk (s k : Int) (os ws : List Int) : cellsOf (pkOf s k os ws) = (ws.length + 3) / 4 := by
  show ((ws.map PyData.int).length + 3) / 4 = _
  rw [List.length_map]
theorem neg_div (n : Nat) : -((-((n : Nat) : Int)) / 4) = (((n + 3) / 4 : Nat) : Int) := by omega
/-- what a tuple of data of a packet's kind stands as -/
theorem packet_at {H : Hp} {v : V} {d : PyData} (h : Dp K H v d) (pk : packet d = true) : ∃ p xs t zs, v = .ref p ∧ SqT K H p xs ∧ xs[3]? = some (.ref t) ∧ SqT K H t zs ∧ cellsOf d = (zs.length + 3) / 4 := by
  obtain ⟨s, k, o, ws, rfl, _⟩ := packet_parts pk
  obtain ⟨p, xs, rfl, ht, ha⟩ := dp_tup h
  obtain ⟨x, y, z, u, rfl, h1, h2, h3, h4⟩ := dpa4 ha
  obtain ⟨t, zs, rfl, ht4, ha4⟩ := dp_tup h4
  refine ⟨p, _, t, zs, rfl, ht, rfl, ht4, ?_⟩
  rw [dpa_len ha4]
  rfl

theorem sh_cells (c : Int) : SeqAt.shaped (.tuple [.str "cells", .int c]) = true := by
  unfold SeqAt.shaped
  simp [PyData.canLay0, PyData.canLayAll0, PyData.depth, PyData.depthAll]
  decide +kernel
theorem sh_none : SeqAt.shaped (.tuple [.str "none", .bool true]) = true := by decide +kernel
theorem eqv_same {d : PyData} (h : SeqAt.shaped d = true) : PyData.eqv d d = true := SeqAt.eqv_refl d (SeqAt.canLay_of_shaped h)
/-! told != ("cells", -(-len(packet[3]) // 4)) or isinstance(told[1], bool): no -/
def tTold (K : PySem.W.Frag) : TT := fun σ H Q => ∃ (t0 p t : Addr) (xs zs : List V), σ[4]? = some (some (.ref t0)) ∧ σ[3]? = some (some (.ref p)) ∧ H t0 = some (.tup [.str "cells", .int (((zs.length + 3) / 4 : Nat) : Int)]) ∧
  SqT K H p xs ∧ xs[3]? = some (.ref t) ∧ SqT K H t zs ∧ ∀ H', Same H H' → Q false H'
theorem pt_told {X : Cx} {e4 e3 e4' : Expr} {k1 k2 k3 k4 k5 : Nat} {p1 p2 p3 p4 p5 p6 p7 p8 p9 p10 p11 p12 p13 p14 p15 p16 p17 : Pos} (hu : X.A.units + 64 < cLine) (Z : Frees X.mg) (g1 : Gl X "len") (g2 : Gl X "isinstance") (g3 : Gl X "bool")
    (h4 : PE X e4 (tVar 4)) (h3 : PE X e3 (tVar 3)) (h4' : PE X e4' (tVar 4)) :
    PT X (.BoolOp .Or [.Compare e4 [.NotEq] [.Tuple [.Constant (.str "cells") k1 p1, .UnaryOp .USub (.BinOp (.UnaryOp .USub (.Call (.Name "len" p2) [.Subscript e3 (.Constant (.int 3) k2 p3) p4] [] p5) p6) .FloorDiv (.Constant (.int 4) k3 p7) p8) p9] k4 p10] p11,
      .Call (.Name "isinstance" p12) [.Subscript e4' (.Constant (.int 1) k5 p13) p14, .Name "bool" p15] [] p16] p17) (tTold X.K) := by
  refine PT.use (PW.pt (pw_or (pt_cmpR (op_neD hu) h4 (pe_tup (pa_cons pe_str (pa_cons (pe_un un_neg (pe_op op_fdiv (pe_un un_neg (pe_callB call_len_seq g1 Z.len PySem.boot_len (pa_cons (pe_ix ix_tup h3 pe_int (fun _ _ => rfl)) pa_nil))) pe_int)) pa_nil))) (nomark _))
    (pw_or1 (pt_val (pe_isBool Z g2 g3 (pe_ix ix_tup h4' pe_int (fun _ _ => rfl))))))) fun σ H Q h => ?_
  obtain ⟨t0, p, t, xs, zs, e1, e2, ht0, hp, h3', ht, fin⟩ := h
  refine ⟨.ref t0, e1, .ref p, e2, p, xs, 3, .ref t, rfl, rfl, hp, atI_nat (j := 3) h3', t, zs, rfl, .inr ht, _, rfl, _, 4, rfl, rfl, ⟨by decide, by decide⟩, _, rfl, by show 2 ≤ sizeLine; decide, fun u nu => ?_⟩
  dsimp only
  rw [neg_div]
  have su : Same H (upd H u (.tup [.str "cells", .int (((zs.length + 3) / 4 : Nat) : Int)])) := same_new nu
  have et0 := su _ _ ht0
  have d1 : Dp X.K (upd H u (.tup [.str "cells", .int (((zs.length + 3) / 4 : Nat) : Int)])) (.ref t0) (.tuple [.str "cells", .int (((zs.length + 3) / 4 : Nat) : Int)]) := .tup (SqT.of et0) (.cons (.str _) (.cons (.int _) .nil))
  have d2 : Dp X.K (upd H u (.tup [.str "cells", .int (((zs.length + 3) / 4 : Nat) : Int)])) (.ref u) (.tuple [.str "cells", .int (((zs.length + 3) / 4 : Nat) : Int)]) := .tup (SqT.of upd_same) (.cons (.str _) (.cons (.int _) .nil))
  refine ⟨_, _, d1, d2, sh_cells _, sh_cells _, _, rfl, ?_⟩
  rw [eqv_same (sh_cells _)]
  exact ⟨.ref t0, e1, t0, _, 1, .int _, rfl, rfl, SqT.of et0, atI_nat (j := 1) rfl, .int _, .ty "bool", _, _, _, rfl, .ty "bool", dp_ty (.int _), ki_bool (.int _), _, rfl, fin _ su⟩
/-- told != ("none", True): no -/
def tNone (K : PySem.W.Frag) : TT := fun σ H Q => ∃ (t0 : Addr), σ[4]? = some (some (.ref t0)) ∧ H t0 = some (.tup [.str "none", .bl true]) ∧ ∀ H', Same H H' → Q false H'
theorem pt_none {X : Cx} {e4 : Expr} {k1 k2 k4 : Nat} {p1 p2 p10 p11 : Pos} (hu : X.A.units + 64 < cLine) (h4 : PE X e4 (tVar 4)) : PT X (.Compare e4 [.NotEq] [.Tuple [.Constant (.str "none") k1 p1, .Constant (.bool true) k2 p2] k4 p10] p11) (tNone X.K) := by
  refine PT.use (pt_cmpR (op_neD hu) h4 (pe_tup (pa_cons pe_str (pa_cons pe_bl pa_nil))) (nomark _)) fun σ H Q h => ?_
  obtain ⟨t0, e1, ht0, fin⟩ := h
  refine ⟨.ref t0, e1, by show 2 ≤ sizeLine; decide, fun u nu => ?_⟩
  have su : Same H (upd H u (.tup [.str "none", .bl true])) := same_new nu
  have d1 : Dp X.K (upd H u (.tup [.str "none", .bl true])) (.ref t0) (.tuple [.str "none", .bool true]) := .tup (SqT.of (su _ _ ht0)) (.cons (.str _) (.cons (.bl _) .nil))
  have d2 : Dp X.K (upd H u (.tup [.str "none", .bl true])) (.ref u) (.tuple [.str "none", .bool true]) := .tup (SqT.of upd_same) (.cons (.str _) (.cons (.bl _) .nil))
  refine ⟨_, _, d1, d2, sh_none, sh_none, _, rfl, ?_⟩
  rw [eqv_same sh_none]
  exact fin _ su
end
end Kx

namespace Kx
open PySem PySem.Spec PyProof.Rows L2
section
variable {P : Program} {w : World} {K : PySem.W.Frag} {mg : Str → Option Value} {base : Heap}

/-! the law: its two loops' bodies -/
def forBody : Stmt → List Stmt
  | .For _ _ b _ _ => b
  | _ => []
abbrev lawN : List Str := ["_law_script", "_law_deck_here", "_law_turn", "_law_packet_here", "_law_told_here", "_law_kind", "_law_here", "_law_word_here", "_law_outs_here", "_law_words", "_law_thing", "_law_k"]
theorem scLaw : FnScope lawN ["_law_script"] (defScope (topS 39)) := ⟨rfl, rfl, rfl, by decide +kernel, rfl, by decide +kernel, by decide +kernel⟩
def body1 : List Stmt := forBody ((defBody (topS 39)).getD 1 (.Pass ⟨0, 0, 0, 0⟩))
def body2 : List Stmt := forBody ((defBody (topS 39)).getD 2 (.Pass ⟨0, 0, 0, 0⟩))
/-- the slots: the script, the deck, whatever -/
def Sg (a dk : Addr) (σ : L2.St) : Prop := ∃ y2 y3 y4 y5 y6 y7 y8 y9 y10 y11 : Option V, σ = [some (.ref a), some (.ref dk), y2, y3, y4, y5, y6, y7, y8, y9, y10, y11]
def tBody : TS := fun D σ H => ∃ a dk q ns, Sg a dk σ ∧ Dk ns dk q H ∧ ∀ σ' H', Sg a dk σ' → Dk ns dk q H' → D.nx σ' H'
theorem new_tup {dk p : Addr} {H : Hp} {xs : List V} {ds : List PyData} (hk : H dk ≠ none) (n : H p = none) (h : DpAll K (Bar dk H) xs ds) : Dt K dk (upd H p (.tup xs)) (.ref p) :=
  ⟨_, .tup (SqT.of (bar_new hk n)) (dpa_up (Sm.of (same_new n)).bar _ _ h)⟩
theorem new_lst {dk p : Addr} {H : Hp} {xs : List V} {ds : List PyData} (hk : H dk ≠ none) (n : H p = none) (h : DpAll K (Bar dk H) xs ds) : Dt K dk (upd H p (.lst xs)) (.ref p) :=
  ⟨_, .lst (SqL.of (bar_new hk n)) (dpa_up (Sm.of (same_new n)).bar _ _ h)⟩
theorem rep_ints (ws : List Int) (n : Nat) : (List.replicate n (ws.map V.int)).flatten = ((List.replicate n ws).flatten).map V.int := by
  rw [List.map_flatten, List.map_replicate]
section
variable {f : Addr} {cdv : Value} {A : Around} {outer : List Env} {s : Shared} {H0 : Hp} {E : XK} {NP : Addr}
theorem ok_body1 (Z : Frees mg) (hr : Room 6 (A.deeper (envOfC "law" (defScope (topS 39)) s.heap.objs.size f cdv)))
    (Cpkt : Cal P w K mg base CX0 4 "_law_packet" ["_law_deck_here", "_law_lines", "_law_most"] (spPkt K)) (Ctold : Cal P w K mg base CX0 6 "_law_told" ["_law_thing"] (spTold K)) (Cdraw : Cal P w K mg base CX0 2 "_law_draw" ["_law_deck_here", "_law_many"] spDraw)
    (Codd : Cal P w K mg base CX0 3 "_law_odd" ["_law_deck_here", "_law_thing"] (spOdd K)) (Clpk : Cal P w K mg base CX0 3 "_law_is_packet" ["_law_thing"] (spLPacket K)) :
    PSs (cxOf CX0 P w K mg base lawN "law" (defScope (topS 39)) f cdv A outer s H0 E).nox body1 tBody := by
  refine PSs.use (pss_cons (ps_set (i := 3) scLaw.nd rfl (Or.inl rfl) (pe_cal Cpkt hr (by decide) rfl (pa_cons (pv 1) (pa_cons pe_int (pa_cons pe_int pa_nil)))))
    (pss_cons (ps_set (i := 4) scLaw.nd rfl (Or.inl rfl) (pe_cal Ctold hr (by decide) rfl (pa_cons (pv 3) pa_nil)))
    (pss_cons (ps_if (pt_told hr.units Z rfl rfl rfl (pv 4) (pv 3) (pv 4)) (pss_one (ps_ret pe_bl)) pss_nil)
    (pss_cons (ps_set (i := 5) scLaw.nd rfl (Or.inl rfl) (pe_cal Cdraw hr (by decide) rfl (pa_cons (pv 1) (pa_cons pe_int pa_nil))))
    (Evl.pss_cut (ps_if (pt_cmpR op_eq (pv 5) pe_int (nomark _))
        (pss_one (ps_set (i := 3) scLaw.nd rfl (Or.inl rfl) (pe_op op_catA (pe_slice sl_tupA (pv 3) po_none (po_some pe_int)) (pe_tup (pa_cons (pe_slice sl_tupA (pe_op op_repT (pe_ix ix_tup (pv 3) pe_int (fun _ _ => rfl)) pe_int) po_none
          (po_some (pe_op op_add pe_int (pe_cal Cdraw hr (by decide) rfl (pa_cons (pv 1) (pa_cons pe_int pa_nil)))))) pa_nil)))))
        (pss_one (ps_if (pt_cmpR op_eq (pv 5) pe_int (nomark _))
          (pss_cons (ps_set (i := 6) scLaw.nd rfl (Or.inl rfl) (pe_cal Cdraw hr (by decide) rfl (pa_cons (pv 1) (pa_cons (pe_callB call_len_seq (by rfl) Z.len PySem.boot_len (pa_cons (pe_ix ix_tup (pv 3) pe_int (fun _ _ => rfl)) pa_nil)) pa_nil))))
          (pss_cons (ps_set (i := 7) scLaw.nd rfl (Or.inl rfl) (pe_ix ix_list (pe_lst (pa_cons pe_int (pa_cons (pe_un un_neg pe_int) (pa_cons pe_bl (pa_cons pe_non (pa_cons pe_str (pa_cons pe_int (pa_cons (pe_op op_pow pe_int pe_int) pa_nil))))))))
            (pe_cal Cdraw hr (by decide) rfl (pa_cons (pv 1) (pa_cons pe_int pa_nil))) (fun _ _ => rfl)))
          (pss_one (ps_set (i := 3) scLaw.nd rfl (Or.inl rfl) (pe_op op_catA (pe_slice sl_tupA (pv 3) po_none (po_some pe_int)) (pe_tup (pa_cons
            (pe_repG (i := 6) (m := 7) (pe_ix ix_tup (pv 3) pe_int (fun _ _ => rfl)) (pv 6) (pv 7) (pe_ix ix_tup (pv 3) pe_int (fun _ _ => rfl)) (pv 6) rfl) pa_nil)))))))
          (pss_one (ps_if (pt_cmpR op_eq (pv 5) pe_int (nomark _))
            (pss_cons (ps_set (i := 8) scLaw.nd rfl (Or.inl rfl) (pe_ix ix_list (pe_lst (pa_cons (pe_tup (pa_cons pe_int (pa_cons pe_int (pa_cons pe_int (pa_cons pe_int pa_nil))))) (pa_cons (pe_tup (pa_cons pe_int pa_nil)) (pa_cons (pe_tup (pa_cons pe_int pa_nil))
              (pa_cons (pe_tup (pa_cons pe_int (pa_cons pe_int pa_nil))) (pa_cons (pe_tup (pa_cons pe_int (pa_cons pe_int pa_nil))) (pa_cons (pe_tup pa_nil) (pa_cons (pe_lst (pa_cons pe_int pa_nil)) (pa_cons (pe_tup (pa_cons pe_bl pa_nil))
              (pa_cons (pe_tup (pa_cons pe_int (pa_cons pe_int (pa_cons pe_int pa_nil)))) pa_nil)))))))))) (pe_cal Cdraw hr (by decide) rfl (pa_cons (pv 1) (pa_cons pe_int pa_nil))) (fun _ _ => rfl)))
            (pss_one (ps_set (i := 3) scLaw.nd rfl (Or.inl rfl) (pe_repC (t := 3) (n := 2) rfl rfl (pv 3) (pv 8) (pv 3) rfl))))
            (pss_one (ps_set (i := 3) scLaw.nd rfl (Or.inl rfl) (pe_cal Codd hr (by decide) rfl (pa_cons (pv 1) (pa_cons (pv 3) pa_nil))))))))))
    (pss_cons (ps_set (i := 4) scLaw.nd rfl (Or.inl rfl) (pe_cal Ctold hr (by decide) rfl (pa_cons (pv 3) pa_nil)))
    (pss_one (ps_if (pt_val (pe_cal Clpk hr (by decide) rfl (pa_cons (pv 3) pa_nil)))
      (pss_one (ps_if (pt_told hr.units Z rfl rfl rfl (pv 4) (pv 3) (pv 4)) (pss_one (ps_ret pe_bl)) pss_nil))
      (pss_one (ps_if (pt_none hr.units (pv 4)) (pss_one (ps_ret pe_bl)) pss_nil)))))))))) fun D σ H h => ?_
  obtain ⟨a, dk, q, ns, ⟨y2, y3, y4, y5, y6, y7, y8, y9, y10, y11, rfl⟩, hD, fin⟩ := h
  -- a packet is drawn and told
  refine ⟨.ref dk, rfl, dk, q, ns, rfl, hD, fun p sv kv os ws H1 s1 d1 h1 pk => ?_⟩
  have ok1 := pk_ok pk
  obtain ⟨_, o, t, ep, hp, ho, ht⟩ := bar_pk h1
  cases ep
  refine ⟨.ref p, rfl, .ref p, _, rfl, dp_up Bar_le _ _ h1, fun t1 xs H2 s2 e2 y2' _ => ?_⟩
  obtain rfl := y2' ok1
  have d2 := d1.up s2
  have m2 := Sm.of (k := dk) s2
  have hp2 := seqT_up m2.bar hp
  have ho2 := seqT_up m2.bar ho
  have ht2 := seqT_up m2.bar ht
  have h2 := dp_up m2.bar _ _ h1
  refine ⟨t1, p, t, _, ws.map V.int, rfl, rfl, ?_, seqT_up Bar_le hp2, rfl, seqT_up Bar_le ht2, fun H3 s3 => ?_⟩
  · rw [List.length_map, ← cells_pk sv kv os ws]
    exact e2
  have d3 := d2.up s3
  have m3 := Sm.of (k := dk) s3
  -- what is made of it
  refine ⟨.ref dk, rfl, dk, q, 4, ns, rfl, by decide, by decide, d3, fun r H4 r0 r1 u4 d4 => ?_⟩
  have m4 := m3.trans u4.sm
  have hp4 := seqT_up m4.bar hp2
  have ho4 := seqT_up m4.bar ho2
  have ht4 := seqT_up m4.bar ht2
  have h4 := dp_up m4.bar _ _ h2
  have w1 := pk.w1
  have w40 := pk.w40
  refine ⟨fun σ' H' => ∃ v d y4 y5 y6 y7 y8, σ' = [some (.ref a), some (.ref dk), y2, some v, y4, y5, y6, y7, y8, y9, y10, y11] ∧ Dp K (Bar dk H') v d ∧ Dk ns dk q H', ?_, ?_⟩
  · refine ⟨.int r, rfl, rfl, _, rfl, ite2 (fun c => ?_) (fun c => ?_)⟩
    · -- many words
      refine ⟨.ref p, rfl, _, rfl, ?_⟩
      refine sl_bar d4.some hp4 fun x1 H5 s5 h5 => ?_
      rw [show cutV [V.int sv, .int kv, .ref o, .ref t] none (some 3) = [.int sv, .int kv, .ref o] from cut_to _ 3] at h5
      have d5 := d4.up s5
      have m5 := Sm.of (k := dk) s5
      have hp5 := seqT_up m5.bar hp4
      have ho5 := seqT_up m5.bar ho4
      have ht5 := seqT_up m5.bar ht4
      refine ⟨.ref p, rfl, p, _, 3, .ref t, rfl, rfl, seqT_up Bar_le hp5, atI_nat (j := 3) rfl, t, 41, _, rfl, rfl, seqT_up Bar_le ht5, ?_, by decide, by decide, ?_, fun u nu => ?_⟩
      · intro z
        have zz := congrArg List.length z
        rw [List.length_map] at zz
        have z0 : ws.length = 0 := zz
        omega
      · rw [List.length_map]
        omega
      have eu : (List.replicate (41 : Int).toNat (ws.map V.int)).flatten = ((List.replicate 41 ws).flatten).map V.int := rep_ints ws 41
      rw [eu]
      have su := same_new (o := .tup (((List.replicate 41 ws).flatten).map V.int)) nu
      have bu := bar_new (o := .tup (((List.replicate 41 ws).flatten).map V.int)) d5.some nu
      have d6 := d5.up su
      refine ⟨.ref dk, rfl, dk, q, 3, ns, rfl, by decide, by decide, d6, fun r2 H7 q0 q1 u7 d7 => ⟨39, r2, rfl, rfl, _, rfl, ?_⟩⟩
      have m7 := (Sm.of (k := dk) su).trans u7.sm
      have bu7 : SqT K (Bar dk H7) u _ := SqT.of (u7.sm.bar _ _ bu)
      refine sl_bar d7.some bu7 fun x2 H8 s8 h8 => ?_
      have d8 := d7.up s8
      obtain ⟨j, ej⟩ := Int.eq_ofNat_of_zero_le (show 0 ≤ 39 + r2 by omega)
      rw [ej, cut_to, ← List.map_take] at h8
      refine ⟨by show 1 ≤ sizeLine; decide, fun v nv => ?_⟩
      have sv8 := same_new (o := .tup [V.ref x2]) nv
      have bv := bar_new (o := .tup [V.ref x2]) d8.some nv
      have m8 := (m7.trans (Sm.of s8)).trans (Sm.of sv8)
      refine cat_bar (some_up d8.some sv8) (seqT_up m8.bar h5) (SqT.of bv) (by show 3 + 1 ≤ 100000; decide) fun x3 H9 s9 h9 => ?_
      have m9 := m8.trans (Sm.of s9)
      refine ⟨.ref x3, _, _, _, _, _, _, rfl, .tup h9 (.cons (.int sv) (.cons (.int kv) (.cons (.tup (seqT_up m9.bar ho5) (dpa_ints os)) (.cons (.tup (seqT_up ((Sm.of (k := dk) sv8).trans (Sm.of s9)).bar h8) (dpa_ints _)) .nil)))), (d8.up sv8).up s9⟩
    refine ⟨.int r, rfl, rfl, _, rfl, ite2 (fun c1 => ?_) (fun c1 => ?_)⟩
    · -- another word
      refine ⟨.ref dk, rfl, .ref p, rfl, p, _, 3, .ref t, rfl, rfl, seqT_up Bar_le hp4, atI_nat (j := 3) rfl, t, _, rfl, .inr (seqT_up Bar_le ht4), dk, q, _, ns, rfl, ?_, ?_, d4, fun i H5 i0 i1 u5 d5 => ?_⟩
      · rw [List.length_map]
        omega
      · rw [List.length_map]
        omega
      obtain ⟨j, rfl⟩ := Int.eq_ofNat_of_zero_le i0
      refine ⟨_, rfl, 10, 30, rfl, rfl, ⟨by decide, by decide, by decide⟩, ?_⟩
      refine menu_tail (d := 1) rfl rfl (Nat.succ_pos _) (by show 7 ≤ 1000; decide) d5 fun i2 y H6 hy s6 d6 => ?_
      have hy5 : Dt K dk H5 y := fa_at (Pv := Dt K dk H5) hy (fa_cons ⟨_, .int _⟩ (fa_cons ⟨_, .int _⟩ (fa_cons ⟨_, .bl true⟩ (fa_cons ⟨_, .non⟩ (fa_cons ⟨_, .str _⟩ (fa_cons ⟨_, .int _⟩ (fa_cons ⟨_, .int _⟩ fa_nil)))))))
      have m6 := u5.sm.trans s6
      have hy6 := hy5.up s6
      have hp6 := seqT_up m6.bar hp4
      have ho6 := seqT_up m6.bar ho4
      have ht6 := seqT_up m6.bar ht4
      refine ⟨.ref p, rfl, _, rfl, ?_⟩
      refine sl_bar d6.some hp6 fun x1 H7 s7 h7 => ?_
      rw [show cutV [V.int sv, .int kv, .ref o, .ref t] none (some 3) = [.int sv, .int kv, .ref o] from cut_to _ 3] at h7
      have d7 := d6.up s7
      have m7 := Sm.of (k := dk) s7
      have hp7 := seqT_up m7.bar hp6
      have ht7 := seqT_up m7.bar ht6
      refine ⟨dk, t, _, j, y, fun H8 Q' s8 q' => ⟨.ref p, rfl, p, _, 3, .ref t, rfl, rfl, seqT_up s8 (seqT_up Bar_le hp7), atI_nat (j := 3) rfl, q'⟩, rfl, rfl, d7.some, ht7, ?_, fun x2 H8 s8 h8 => ?_⟩
      · rw [List.length_map]
        omega
      have d8 := d7.up s8
      obtain ⟨yd, hyd⟩ := hy6.up (m7.trans (Sm.of s8))
      have w8 : Dt K dk H8 (.ref x2) := ⟨_, .tup h8 (dpa_app (dpa_app (dpa_take j (dpa_ints ws)) (.cons hyd .nil)) (dpa_drop (j + 1) (dpa_ints ws)))⟩
      refine ⟨by show 1 ≤ sizeLine; decide, fun v nv => ?_⟩
      have sv8 := same_new (o := .tup [V.ref x2]) nv
      have bv := bar_new (o := .tup [V.ref x2]) d8.some nv
      have m8 := (Sm.of (k := dk) s8).trans (Sm.of sv8)
      refine cat_bar (some_up d8.some sv8) (seqT_up m8.bar h7) (SqT.of bv) (by show 3 + 1 ≤ 100000; decide) fun x3 H9 s9 h9 => ?_
      obtain ⟨wd, hwd⟩ := w8.up ((Sm.of (k := dk) sv8).trans (Sm.of s9))
      exact ⟨.ref x3, _, _, _, _, _, _, rfl, .tup h9 (.cons (.int sv) (.cons (.int kv) (.cons (.tup (seqT_up ((m7.trans m8).trans (Sm.of s9)).bar ho6) (dpa_ints os)) (.cons hwd .nil)))), (d8.up sv8).up s9⟩
    refine ⟨.int r, rfl, rfl, _, rfl, ite2 (fun c2 => ?_) (fun c2 => ?_)⟩
    · -- other outs
      refine ⟨by show 4 ≤ sizeLine; decide, fun b1 n1 => ⟨by show 1 ≤ sizeLine; decide, fun b2 n2 => ⟨by show 1 ≤ sizeLine; decide, fun b3 n3 => ⟨by show 2 ≤ sizeLine; decide, fun b4 n4 => ⟨by show 2 ≤ sizeLine; decide, fun b5 n5 => ⟨Nat.zero_le _, fun b6 n6 =>
        ⟨by show 1 ≤ sizeLine; decide, fun b7 n7 => ⟨by show 1 ≤ sizeLine; decide, fun b8 n8 => ⟨by show 3 ≤ sizeLine; decide, fun b9 n9 => ?_⟩⟩⟩⟩⟩⟩⟩⟩⟩
      have k0 := d4.some
      have g1 := new_tup (K := K) k0 n1 (dpa_ints [0, 1, 2, 3])
      have e1 := same_new (o := .tup [V.int 0, .int 1, .int 2, .int 3]) n1
      have k1 := some_up k0 e1
      have g2 := new_tup (K := K) k1 n2 (dpa_ints [12])
      have e2 := same_new (o := .tup [V.int 12]) n2
      have k2 := some_up k1 e2
      have g3 := new_tup (K := K) k2 n3 (dpa_ints [11])
      have e3 := same_new (o := .tup [V.int 11]) n3
      have k3 := some_up k2 e3
      have g4 := new_tup (K := K) k3 n4 (dpa_ints [1, 0])
      have e4 := same_new (o := .tup [V.int 1, .int 0]) n4
      have k4 := some_up k3 e4
      have g5 := new_tup (K := K) k4 n5 (dpa_ints [2, 2])
      have e5 := same_new (o := .tup [V.int 2, .int 2]) n5
      have k5 := some_up k4 e5
      have g6 := new_tup (K := K) k5 n6 (dpa_ints [])
      have e6 := same_new (o := .tup []) n6
      have k6 := some_up k5 e6
      have g7 := new_lst (K := K) k6 n7 (dpa_ints [0])
      have e7 := same_new (o := .lst [V.int 0]) n7
      have k7 := some_up k6 e7
      have g8 := new_tup (K := K) k7 n8 (.cons (.bl true) .nil)
      have e8 := same_new (o := .tup [V.bl true]) n8
      have k8 := some_up k7 e8
      have g9 := new_tup (K := K) k8 n9 (dpa_ints [0, 5, 11])
      have e9 := same_new (o := .tup [V.int 0, .int 5, .int 11]) n9
      have f8 := e9
      have f7 := e8.trans f8
      have f6 := e7.trans f7
      have f5 := e6.trans f6
      have f4 := e5.trans f5
      have f3 := e4.trans f4
      have f2 := e3.trans f3
      have f1 := e2.trans f2
      have d9 := d4.up (e1.trans f1)
      refine menu_tail (d := 1) rfl rfl (Nat.succ_pos _) (by show 9 ≤ 1000; decide) d9 fun i2 y H5 hy s5 d5 => ?_
      have hy4 : Dt K dk _ y := fa_at (Pv := Dt K dk _) hy (fa_cons (g1.up (Sm.of f1)) (fa_cons (g2.up (Sm.of f2)) (fa_cons (g3.up (Sm.of f3)) (fa_cons (g4.up (Sm.of f4)) (fa_cons (g5.up (Sm.of f5)) (fa_cons (g6.up (Sm.of f6)) (fa_cons (g7.up (Sm.of f7)) (fa_cons (g8.up (Sm.of f8)) (fa_cons g9 fa_nil)))))))))
      have hy5 := hy4.up s5
      have m5 := (Sm.of (k := dk) (e1.trans f1)).trans s5
      have hp5 := seqT_up m5.bar hp4
      refine ⟨dk, p, _, fun y' H' => y' = y ∧ Dt K dk H' y ∧ Dk ns dk q H', rfl, d5.some, hp5, by show 4 ≤ 10000; decide, fun H6 Q' s6 k => ⟨y, rfl, k y H6 (Sm.refl _) (some_up d5.some s6) ⟨rfl, hy5.up (Sm.of s6), d5.up s6⟩⟩, ?_⟩
      rintro y' x3 H6 H7 s6 ⟨rfl, hy6, d6⟩ s7 h7
      obtain ⟨yd, hyd⟩ := hy6.up (Sm.of s7)
      exact ⟨.ref x3, _, _, _, _, _, _, rfl, .tup h7 (.cons (.int sv) (.cons (.int kv) (.cons hyd (.cons (.tup (seqT_up ((m5.trans s6).trans (Sm.of s7)).bar ht4) (dpa_ints ws)) .nil)))), d6.up s7⟩
    · -- an odd one
      refine ⟨.ref dk, rfl, .ref p, rfl, dk, q, ns, .ref p, _, rfl, d4, h4, by show 1 ≤ 4; decide, by show 4 ≤ 100; decide, fun v' H5 s5 d5 hv => ?_⟩
      obtain ⟨d, hd⟩ := hv
      exact ⟨v', d, _, _, _, _, _, rfl, hd, d5⟩
  · rintro σ' H5 ⟨v, d, z4, z5, z6, z7, z8, rfl, hd, d5⟩
    -- it is told and judged
    refine ⟨v, rfl, v, d, rfl, dp_up Bar_le _ _ hd, fun t2 xs H6 s6 e6 yes no => ?_⟩
    have d6 := d5.up s6
    have hd6 := dp_up s6 _ _ (dp_up Bar_le _ _ hd)
    refine ⟨v, rfl, v, d, rfl, hd6, fun H7 s7 => ⟨_, rfl, ite2 (fun c => ?_) (fun c => ?_)⟩⟩
    · obtain rfl := yes c
      have hd7 := dp_up s7 _ _ hd6
      obtain ⟨p7, ys, t7, zs, rfl, hp7, g3, ht7, ec⟩ := packet_at hd7 c
      refine ⟨t2, p7, t7, ys, zs, rfl, rfl, ?_, hp7, g3, ht7, fun H8 s8 => ?_⟩
      · rw [← ec]
        exact s7 _ _ e6
      · exact fin _ H8 ⟨_, _, _, _, _, _, _, _, _, _, rfl⟩ ((d6.up s7).up s8)
    · obtain rfl := no (nd c)
      exact ⟨t2, rfl, s7 _ _ e6, fun H8 s8 => fin _ H8 ⟨_, _, _, _, _, _, _, _, _, _, rfl⟩ ((d6.up s7).up s8)⟩
end
end
end Kx

namespace Kx
open PySem PySem.Spec PyProof.Rows L2
section
variable {P : Program} {w : World} {K : PySem.W.Frag} {mg : Str → Option Value} {base : Heap}

/-! the law: its second loop's body -/
def bd : Nat → Nat
  | 0 => 4
  | n + 1 => 2 * bd n + 1
theorem bd_le : ∀ {n : Nat}, n ≤ 2 → bd n ≤ 19
  | 0, _ => by decide
  | 1, _ => by decide
  | 2, _ => by decide
  | n + 3, h => by omega
section
variable {f : Addr} {cdv : Value} {A : Around} {outer : List Env} {s : Shared} {H0 : Hp} {E : XK}
theorem ok_body2 (Z : Frees mg) (hr : Room 6 (A.deeper (envOfC "law" (defScope (topS 39)) s.heap.objs.size f cdv)))
    (Cpkt : Cal P w K mg base CX0 4 "_law_packet" ["_law_deck_here", "_law_lines", "_law_most"] (spPkt K)) (Cdraw : Cal P w K mg base CX0 2 "_law_draw" ["_law_deck_here", "_law_many"] spDraw)
    (Cld : Cal P w K mg base CX0 1 "_law_load" ["_law_number", "_law_words", "_law_part"] (spLd K)) (Cload : Cal P w K mg base CX0 3 "is_load" ["thing"] (spLoad K))
    (Cch : Cal P w K mg base CX0 3 "_law_changed" ["_law_deck_here", "_law_thing"] (spCh K)) (Cfit : Cal P w K mg base CX0 1 "_law_fitted" ["_law_thing"] (spFit K))
    (Codd : Cal P w K mg base CX0 3 "_law_odd" ["_law_deck_here", "_law_thing"] (spOdd K)) (Clload : Cal P w K mg base CX0 3 "_law_is_load" ["_law_thing"] (spLoad K)) :
    PSs (cxOf CX0 P w K mg base lawN "law" (defScope (topS 39)) f cdv A outer s H0 E).nox body2 tBody := by
  refine PSs.use (pss_cons (ps_set (i := 9) scLaw.nd rfl (Or.inl rfl) (pe_ix ix_tup (pe_cal Cpkt hr (by decide) rfl (pa_cons (pv 1) (pa_cons pe_int (pa_cons pe_int pa_nil)))) pe_int (fun _ _ => rfl)))
    (pss_cons (ps_set (i := 10) scLaw.nd rfl (Or.inl rfl) (pe_cal Cld hr (by decide) rfl (pa_cons (pe_cal Cdraw hr (by decide) rfl (pa_cons (pv 1) (pa_cons (pe_op op_add (pe_op op_pow pe_int pe_int) pe_int) pa_nil)))
        (pa_cons (pv 9) (pa_cons (pe_cal Cdraw hr (by decide) rfl (pa_cons (pv 1) (pa_cons (pe_op op_fdiv (pe_op op_add (pe_callB call_len_seq (by rfl) Z.len PySem.boot_len (pa_cons (pv 9) pa_nil)) pe_int) pe_int) pa_nil))) pa_nil)))))
    (pss_cons (ps_if (pt_cmpR op_notBl (pe_cal Cload hr (by decide) rfl (pa_cons (pv 10) pa_nil)) pe_bl (nomark _)) (pss_one (ps_ret pe_bl)) pss_nil)
    (pss_cons (ps_for PassesOwn.never rfl (pi_range1 rfl Z.range (pa_cons (pe_cal Cdraw hr (by decide) rfl (pa_cons (pv 1) (pa_cons pe_int pa_nil))) pa_nil)) (pg_name (i := 11) scLaw.nd rfl (Or.inl rfl))
      (pss_one (ps_if (pt_cmpR op_gt (pe_callB call_len_seq (by rfl) Z.len PySem.boot_len (pa_cons (pe_ix ix_tup (pv 10) pe_int (fun _ _ => rfl)) pa_nil)) pe_int (nomark _))
        (pss_one (ps_set (i := 10) scLaw.nd rfl (Or.inl rfl) (pe_cal Cch hr (by decide) rfl (pa_cons (pv 1) (pa_cons (pv 10) pa_nil))))) pss_nil)))
    (Evl.pss_cut (ps_if (pt_cmpR op_eq (pe_cal Cdraw hr (by decide) rfl (pa_cons (pv 1) (pa_cons pe_int pa_nil))) pe_int (nomark _)) (pss_one (ps_set (i := 10) scLaw.nd rfl (Or.inl rfl) (pe_cal Cfit hr (by decide) rfl (pa_cons (pv 10) pa_nil)))) pss_nil)
    (Evl.pss_cut (ps_if (pt_cmpR op_eq (pe_cal Cdraw hr (by decide) rfl (pa_cons (pv 1) (pa_cons pe_int pa_nil))) pe_int (nomark _)) (pss_one (ps_set (i := 10) scLaw.nd rfl (Or.inl rfl) (pe_cal Codd hr (by decide) rfl (pa_cons (pv 1) (pa_cons (pv 10) pa_nil))))) pss_nil)
    (pss_cons (ps_set (i := 4) scLaw.nd rfl (Or.inl rfl) (pe_cal Cload hr (by decide) rfl (pa_cons (pv 10) pa_nil)))
    (pss_one (ps_if (PW.pt (pw_or (pt_not (pt_val (pe_isBool Z rfl rfl (pv 4)))) (pw_or1 (pt_cmpR op_ne (pv 4) (pe_cal Clload hr (by decide) rfl (pa_cons (pv 10) pa_nil)) (nomark _))))) (pss_one (ps_ret pe_bl)) pss_nil))))))))) fun D σ H h => ?_
  obtain ⟨a, dk, q, ns, ⟨y2, y3, y4, y5, y6, y7, y8, y9, y10, y11, rfl⟩, hD, fin⟩ := h
  refine ⟨.ref dk, rfl, dk, q, ns, rfl, hD, fun p sv kv os ws H1 s1 d1 h1 pk => ?_⟩
  obtain ⟨_, o, t, ep, hp, ho, ht⟩ := bar_pk h1
  cases ep
  have w1 := pk.w1
  have w40 := pk.w40
  refine ⟨p, _, 3, .ref t, rfl, rfl, seqT_up Bar_le hp, atI_nat (j := 3) rfl, ?_⟩
  refine ⟨.ref dk, rfl, 10, 9, rfl, rfl, ⟨by decide, by decide, by decide⟩, _, 1, rfl, rfl, dk, q, 1000000001, ns, rfl, by decide, by decide, d1, fun n H2 n0 n1 u2 d2 => ?_⟩
  have ht2 := seqT_up u2.sm.bar ht
  refine ⟨.ref t, rfl, .ref dk, rfl, .ref t, rfl, t, _, rfl, .inr (seqT_up Bar_le ht2), _, 3, rfl, rfl, _, 4, rfl, rfl, ⟨by decide, by decide⟩, dk, q, _, ns, rfl, ?_, ?_, d2, fun i H3 i0 i1 u3 d3 => ?_⟩
  · rw [List.length_map]
    omega
  · rw [List.length_map]
    omega
  obtain ⟨j, rfl⟩ := Int.eq_ofNat_of_zero_le i0
  rw [List.length_map] at i1
  have ht3 := seqT_up u3.sm.bar ht2
  refine ⟨dk, t, n, j, ws, rfl, d3.some, ht3, w1, w40, pk.wb, n0, by omega, by omega, fun v b c e us H4 s4 h4 ok l4 => ?_⟩
  have d4 := d3.up s4
  refine ⟨.ref v, rfl, .ref v, _, rfl, dp_up Bar_le _ _ h4, fun H5 s5 => ⟨_, true, rfl, rfl, ?_⟩⟩
  rw [ok]
  refine ⟨_, rfl, ?_⟩
  have d5 := d4.up s5
  have h5 := dp_up (Sm.of (k := dk) s5).bar _ _ h4
  refine ⟨.ref dk, rfl, dk, q, 3, ns, rfl, by decide, by decide, d5, fun r H6 r0 r1 u6 d6 => ⟨r, rfl, by omega, by omega, ?_⟩⟩
  have h6 := dp_up u6.sm.bar _ _ h5
  refine for_range (lo := 0) (n := r.toNat) (fun i σ H' => ∃ v a' b c e us y11, σ = [some (.ref a), some (.ref dk), y2, y3, y4, y5, y6, y7, y8, some (.ref t), some v, y11] ∧ Dk ns dk q H' ∧ Dp K (Bar dk H') v (ldOf a' b c us e) ∧ us.length ≤ bd i)
    ⟨_, _, _, _, _, _, _, rfl, d6, h6, l4⟩ ?_ ?_
  · rintro i σ H7 hi ⟨v7, a7, b7, c7, e7, us7, y7', rfl, d7, h7, l7⟩
    have hi' : i < r.toNat := hi
    have big : bd i ≤ 19 := bd_le (by omega)
    obtain ⟨p7, t7, ev, hp7, ht7⟩ := bar_ld h7
    cases ev
    refine ⟨.ref p7, rfl, p7, _, 3, .ref t7, rfl, rfl, seqT_up Bar_le hp7, atI_nat (j := 3) rfl, t7, _, rfl, .inr (seqT_up Bar_le ht7), _, 0, rfl, rfl, _, rfl, ite2 (fun c => ?_) (fun c => ?_)⟩
    · have c' := of_decide_eq_true c
      rw [List.length_map] at c'
      refine ⟨.ref dk, rfl, .ref p7, rfl, dk, q, ns, .ref p7, a7, b7, c7, e7, us7, rfl, d7, h7, by omega, by omega, fun p8 a8 b8 c8 e8 us8 H8 s8 d8 h8 l8 => ?_⟩
      refine ⟨_, _, _, _, _, _, _, rfl, d8, h8, ?_⟩
      show us8.length ≤ 2 * bd i + 1
      omega
    · refine ⟨_, _, _, _, _, _, _, rfl, d7, h7, ?_⟩
      show us7.length ≤ 2 * bd i + 1
      omega
  · rintro σ H7 ⟨v7, a7, b7, c7, e7, us7, y7', rfl, d7, h7, l7⟩
    have big : bd r.toNat ≤ 19 := bd_le (by omega)
    refine ⟨fun σ' H' => ∃ v a' b c e us, σ' = [some (.ref a), some (.ref dk), y2, y3, y4, y5, y6, y7, y8, some (.ref t), some v, y7'] ∧ Dk ns dk q H' ∧ Dp K (Bar dk H') v (ldOf a' b c us e), ?_, ?_⟩
    · refine ⟨.ref dk, rfl, dk, q, 2, ns, rfl, by decide, by decide, d7, fun x H8 x0 x1 u8 d8 => ⟨rfl, _, rfl, ite2 (fun _ => ?_) (fun _ => ?_)⟩⟩
      · refine ⟨v7, rfl, dk, v7, a7, b7, c7, e7, us7, rfl, d8.some, dp_up u8.sm.bar _ _ h7, by omega, fun p9 e9 H9 s9 h9 => ?_⟩
        exact ⟨_, _, _, _, _, _, rfl, d8.up s9, h9⟩
      · exact ⟨_, _, _, _, _, _, rfl, d8, dp_up u8.sm.bar _ _ h7⟩
    rintro σ' H8 ⟨v8, a8, b8, c8, e8, us8, rfl, d8, h8⟩
    refine ⟨fun σ' H' => ∃ v d, σ' = [some (.ref a), some (.ref dk), y2, y3, y4, y5, y6, y7, y8, some (.ref t), some v, y7'] ∧ Dk ns dk q H' ∧ Dp K (Bar dk H') v d, ?_, ?_⟩
    · refine ⟨.ref dk, rfl, dk, q, 4, ns, rfl, by decide, by decide, d8, fun x H9 x0 x1 u9 d9 => ⟨rfl, _, rfl, ite2 (fun _ => ?_) (fun _ => ?_)⟩⟩
      · refine ⟨.ref dk, rfl, v8, rfl, dk, q, ns, v8, _, rfl, d9, dp_up u9.sm.bar _ _ h8, by show 1 ≤ 5; decide, by show 5 ≤ 100; decide, fun v' H10 s10 d10 hv => ?_⟩
        obtain ⟨d, hd⟩ := hv
        exact ⟨_, d, rfl, d10, hd⟩
      · exact ⟨_, _, rfl, d9, dp_up u9.sm.bar _ _ h8⟩
    rintro σ' H9 ⟨v9, d, rfl, d9, h9⟩
    refine ⟨v9, rfl, v9, d, rfl, dp_up Bar_le _ _ h9, fun H10 s10 => ?_⟩
    have h10 := dp_up s10 _ _ (dp_up Bar_le _ _ h9)
    refine ⟨.bl (load d), rfl, .bl (load d), .ty "bool", _, _, _, rfl, .ty "bool", dp_ty (.bl _), ki_bool (.bool (load d)), _, rfl, ?_⟩
    refine ⟨.bl (load d), rfl, v9, rfl, v9, d, rfl, h10, fun H11 s11 => ⟨rfl, ?_⟩⟩
    rw [decide_eq_true rfl]
    exact ⟨_, rfl, fin _ H11 ⟨_, _, _, _, _, _, _, _, _, _, rfl⟩ ((d9.up s10).up s11)⟩
end
end
end Kx

namespace Kx
open PySem PySem.Spec PyProof.Rows L2
section
variable {P : Program} {w : World} {K : PySem.W.Frag} {mg : Str → Option Value} {base : Heap}

/-! the law -/
def spLaw (K : PySem.W.Frag) : Sp := fun vs H Q _ => ∃ (a : Addr) (ns : List Int), vs = [.ref a] ∧ SqL K H a (ns.map V.int) ∧ ∀ H', Q (.bl true) H'
theorem ok_law {fa : Addr} {fd : FuncData} (Z : Frees mg) (F : Fun K "law" "law" (topS 39) fa fd)
    (Cdeck : Cal P w K mg base CX0 1 "_law_deck" ["_law_script"] (spDeck K))
    (Cpkt : Cal P w K mg base CX0 4 "_law_packet" ["_law_deck_here", "_law_lines", "_law_most"] (spPkt K)) (Ctold : Cal P w K mg base CX0 6 "_law_told" ["_law_thing"] (spTold K)) (Cdraw : Cal P w K mg base CX0 2 "_law_draw" ["_law_deck_here", "_law_many"] spDraw)
    (Codd : Cal P w K mg base CX0 3 "_law_odd" ["_law_deck_here", "_law_thing"] (spOdd K)) (Clpk : Cal P w K mg base CX0 3 "_law_is_packet" ["_law_thing"] (spLPacket K))
    (Cld : Cal P w K mg base CX0 1 "_law_load" ["_law_number", "_law_words", "_law_part"] (spLd K)) (Cload : Cal P w K mg base CX0 3 "is_load" ["thing"] (spLoad K))
    (Cch : Cal P w K mg base CX0 3 "_law_changed" ["_law_deck_here", "_law_thing"] (spCh K)) (Cfit : Cal P w K mg base CX0 1 "_law_fitted" ["_law_thing"] (spFit K))
    (Clload : Cal P w K mg base CX0 3 "_law_is_load" ["_law_thing"] (spLoad K)) : FnOk P w K mg base CX0 7 fa fd ["_law_script"] (spLaw K) := by
  refine F.ok scLaw (fun vs H Q E h => ?_) (fun cdv A outer s H vs Q E hr h => ?_)
  · obtain ⟨a, ns, rfl, _⟩ := h
    rfl
  · obtain ⟨a, ns, rfl, hS, fin⟩ := h
    refine ⟨_, pss_cons (ps_set (i := 1) scLaw.nd rfl (Or.inl rfl) (pe_cal Cdeck hr (by decide) rfl (pa_cons (pv 0) pa_nil)))
      (pss_cons (ps_for PassesOwn.never rfl (pi_range1 rfl Z.range (pa_cons pe_int pa_nil)) (pg_name (i := 2) scLaw.nd rfl (Or.inl rfl)) (ok_body1 Z hr Cpkt Ctold Cdraw Codd Clpk))
      (pss_cons (ps_for PassesOwn.never rfl (pi_range1 rfl Z.range (pa_cons pe_int pa_nil)) (pg_name (i := 2) scLaw.nd rfl (Or.inl rfl)) (ok_body2 Z hr Cpkt Cdraw Cld Cload Cch Cfit Codd Clload))
      (pss_one (ps_ret pe_bl)))), ?_⟩
    refine ⟨.ref a, rfl, a, ns, rfl, hS, fun dk q H1 d1 => ?_⟩
    refine ⟨3, rfl, by decide, by decide, ?_⟩
    refine for_range (lo := 0) (n := 3) (fun i σ H' => Sg a dk σ ∧ Dk ns dk q H') ⟨⟨_, _, _, _, _, _, _, _, _, _, rfl⟩, d1⟩ ?_ ?_
    · rintro i σ H2 hi ⟨⟨y2, y3, y4, y5, y6, y7, y8, y9, y10, y11, rfl⟩, d2⟩
      exact ⟨a, dk, q, ns, ⟨_, _, _, _, _, _, _, _, _, _, rfl⟩, d2, fun σ' H' hs hd => ⟨hs, hd⟩⟩
    · rintro σ H2 ⟨⟨y2, y3, y4, y5, y6, y7, y8, y9, y10, y11, rfl⟩, d2⟩
      refine ⟨4, rfl, by decide, by decide, ?_⟩
      refine for_range (lo := 0) (n := 4) (fun i σ H' => Sg a dk σ ∧ Dk ns dk q H') ⟨⟨_, _, _, _, _, _, _, _, _, _, rfl⟩, d2⟩ ?_ ?_
      · rintro i σ H3 hi ⟨⟨y2, y3, y4, y5, y6, y7, y8, y9, y10, y11, rfl⟩, d3⟩
        exact ⟨a, dk, q, ns, ⟨_, _, _, _, _, _, _, _, _, _, rfl⟩, d3, fun σ' H' hs hd => ⟨hs, hd⟩⟩
      · rintro σ H3 ⟨_, d3⟩
        exact fin _
/-! what the top has written -/
theorem gets {h : Heap} {x : Str} {n : Int} {t : Tok} (X : K.In h) (G : h.Ns mainGlobals mg) (m : PySem.W.nsIn K mainGlobals x = some (some (.int n t))) : ∃ t, mg x = some (.int n t) := ⟨t, PySem.W.mg_of X G m⟩
theorem all_mk {l : PySem.W.OpenLaw} {h : Heap} {fa : Addr} (X : K.In h) (G : h.Ns mainGlobals mg) (hfa : mg "law" = some (.ref fa))
    {f1 f2 f3 f18 f19 f20 f21 f22 f24 f25 f26 f28 f29 f30 f31 f32 f33 f34 f35 f36 f37 f38 f39 NP FE NO : Addr} {t1 t2 t3 t4 t5 t6 t7 t8 t9 : Tok}
    (a1 : DefAt K "is_integer" (topS 1) f1) (a2 : DefAt K "is_within" (topS 2) f2) (a3 : DefAt K "is_lot" (topS 3) f3) (a18 : DefAt K "is_packet_for" (topS 18) f18) (a19 : DefAt K "parts_of" (topS 19) f19)
    (a20 : DefAt K "cells_in" (topS 20) f20) (a21 : DefAt K "check_of" (topS 21) f21) (a22 : DefAt K "is_load" (topS 22) f22) (a24 : DefAt K "_law_deck" (topS 24) f24) (a25 : DefAt K "_law_mixed" (topS 25) f25)
    (a26 : DefAt K "_law_draw" (topS 26) f26) (a28 : DefAt K "_law_outs" (topS 28) f28) (a29 : DefAt K "_law_packet" (topS 29) f29) (a30 : DefAt K "_law_load" (topS 30) f30) (a31 : DefAt K "_law_is_within" (topS 31) f31)
    (a32 : DefAt K "_law_are_words" (topS 32) f32) (a33 : DefAt K "_law_is_packet" (topS 33) f33) (a34 : DefAt K "_law_is_load" (topS 34) f34) (a35 : DefAt K "_law_fitted" (topS 35) f35) (a36 : DefAt K "_law_changed" (topS 36) f36)
    (a37 : DefAt K "_law_odd" (topS 37) f37) (a38 : DefAt K "_law_told" (topS 38) f38) (a39 : DefAt K "law" (topS 39) f39)
    (z1 : PySem.W.nsIn K mainGlobals "isinstance" = some none) (z2 : PySem.W.nsIn K mainGlobals "int" = some none) (z3 : PySem.W.nsIn K mainGlobals "bool" = some none) (z4 : PySem.W.nsIn K mainGlobals "tuple" = some none)
    (z5 : PySem.W.nsIn K mainGlobals "len" = some none) (z6 : PySem.W.nsIn K mainGlobals "all" = some none) (z7 : PySem.W.nsIn K mainGlobals "range" = some none) (z8 : PySem.W.nsIn K mainGlobals "sum" = some none)
    (z9 : PySem.W.nsIn K mainGlobals "enumerate" = some none) (z10 : PySem.W.nsIn K mainGlobals "list" = some none) (z11 : PySem.W.nsIn K mainGlobals "abs" = some none) (z12 : PySem.W.nsIn K mainGlobals "sorted" = some none)
    (m1 : PySem.W.nsIn K mainGlobals "MOST_WORDS" = some (some (.int 40 t1))) (m2 : PySem.W.nsIn K mainGlobals "IN_CELL" = some (some (.int 4 t2))) (m3 : PySem.W.nsIn K mainGlobals "MOST_WORD" = some (some (.int 255 t3)))
    (m4 : PySem.W.nsIn K mainGlobals "ROUND" = some (some (.int 251 t4))) (m5 : PySem.W.nsIn K mainGlobals "MOST_STREAM" = some (some (.int 99 t5))) (m6 : PySem.W.nsIn K mainGlobals "MOST_KIND" = some (some (.int 7 t6)))
    (m7 : PySem.W.nsIn K mainGlobals "MOST_OUTPUTS" = some (some (.int 12 t7))) (m8 : PySem.W.nsIn K mainGlobals "MOST_COPIES" = some (some (.int 3 t8))) (m9 : PySem.W.nsIn K mainGlobals "MOST_NUMBER" = some (some (.int 1000000000 t9)))
    (gNP : PySem.W.nsIn K mainGlobals "NoPacket" = some (some (.ref NP))) (gFE : PySem.W.nsIn K mainGlobals "FabricError" = some (some (.ref FE))) (gNO : PySem.W.nsIn K mainGlobals "NoOutput" = some (some (.ref NO)))
    (xNP : PySem.W.excIn K NP [.type "ValueError", .type "Exception", .type "BaseException", .type "object"] "ValueError.__new__" = true) (kNP : PySem.W.keepIn K (.ref NP) = true)
    (bNP : PySem.W.subIn K (.ref NP) (.type "BaseException") = some true) (tNP : PySem.W.typeIn K (.ref NP) = some (.type "type"))
    (e1 : PySem.W.findIn K (.ref NP) "__getattribute__" = some (some (.builtin "BaseException.__getattribute__"))) (e2 : PySem.W.findIn K (.ref NP) "__getattr__" = some none)
    (e4 : PySem.W.hasDictIn K NP = true) (e5 : PySem.W.findIn K (.ref NP) "__class__" = some (some (.builtin "object.__class__")))
    (e6 : PySem.W.specialIn K (.builtin "object.__class__") "__get__" = some (some (.builtin "getset_descriptor.__get__"))) (e7 : PySem.W.takesIn K (.builtin "object.__class__") = some true) (e8 : PySem.W.mroIn K NP (.type "object") = some true)
    (sNP : PySem.W.subIn K (.ref NP) (.ref NP) = some true) (sFE : PySem.W.subIn K (.ref NP) (.ref FE) = some true) (sNO : PySem.W.subIn K (.ref NP) (.ref NO) = some false)
    (iFE : PySem.W.isClsIn K FE = true) (iNO : PySem.W.isClsIn K NO = true) (tFE : PySem.W.typeIn K (.ref FE) = some (.type "type")) (tNO : PySem.W.typeIn K (.ref NO) = some (.type "type")) :
    ∃ fd : FuncData, (∀ (s : Shared) (v : Value), BindsTo s fd ⟨[v], []⟩ [("_law_script", v)]) ∧ ∀ base : Heap, K.In base → base.Ns mainGlobals mg → FnOk l.prog w K mg base CX0 7 fa fd ["_law_script"] (spLaw K) := by
  have Z : Frees mg := ⟨PySem.W.mg_none_of X G z1, PySem.W.mg_none_of X G z2, PySem.W.mg_none_of X G z3, PySem.W.mg_none_of X G z4, PySem.W.mg_none_of X G z5, PySem.W.mg_none_of X G z6, PySem.W.mg_none_of X G z7, PySem.W.mg_none_of X G z8, PySem.W.mg_none_of X G z9,
    PySem.W.mg_none_of X G z10, PySem.W.mg_none_of X G z11, PySem.W.mg_none_of X G z12⟩
  have C : Consts mg := ⟨gets X G m1, gets X G m2, gets X G m3, gets X G m4, gets X G m5, gets X G m6, gets X G m7, gets X G m8, gets X G m9⟩
  have T : ExcTxt K mg NP := ⟨PySem.W.mg_of X G gNP, xNP, kNP, bNP, tNP⟩
  have T2 : ErrTxt K mg NP := ⟨T, ⟨e1, e2, bNP, e4, e5, e6, e7, e8⟩, PySem.W.exm_ref bNP e4 tNP sNP, ⟨FE, PySem.W.mg_of X G gFE, kit_own iFE tFE sFE sNP⟩, ⟨NO, PySem.W.mg_of X G gNO, kit_own iNO tNO sNO sNP⟩⟩
  have A39 := a39.at X G
  obtain ⟨f, fd, F, m⟩ := A39.ex
  have e := hfa.symm.trans m
  cases e
  refine ⟨fd, fun s v => ?_, fun base _ _ => ?_⟩
  · obtain ⟨oc, od, kV, doc, pm, an, cdv, ct, osl, rfl, _, _⟩ := F.ex
    exact .of_eq rfl
  have Cint := ok_integer (P := l.prog) (w := w) (base := base) Z (a1.at X G)
  have Cwi := ok_within Cint (a2.at X G)
  have Clwi := ok_lwithin (P := l.prog) (w := w) (base := base) Z (a31.at X G)
  have Clot := ok_lot Z Cwi (a3.at X G)
  have Cpk := ok_packet Z C Cwi Clot (a18.at X G)
  have Cparts := ok_parts (P := l.prog) (w := w) (base := base) Z C (a19.at X G)
  have Ccells := ok_cells Z C T Cpk Cparts (a20.at X G)
  have Ccheck := ok_check (P := l.prog) (w := w) (base := base) Z C (a21.at X G)
  have Cload := ok_load Z C Cwi Ccheck (a22.at X G)
  have Cdeck := ok_deck (P := l.prog) (w := w) (base := base) Z (a24.at X G)
  have Cmix := ok_mixed (P := l.prog) (w := w) (base := base) Z (a25.at X G)
  have Cdraw := ok_draw Z Cmix (a26.at X G)
  have Couts := ok_outs Z Cdraw (a28.at X G)
  have Cpkt := ok_pkt Z Cdraw Couts (a29.at X G)
  have Cld := ok_ld (P := l.prog) (w := w) (base := base) Z (a30.at X G)
  have Care := ok_are Z Clwi (a32.at X G)
  have Clpk := ok_lpacket Z Clwi Care (a33.at X G)
  have Clload := ok_lload Z Clwi Care (a34.at X G)
  have Cfit := ok_fit (P := l.prog) (w := w) (base := base) Z (a35.at X G)
  have Cch := ok_ch Z Cdraw (a36.at X G)
  have Codd := ok_odd Z Cdraw (a37.at X G)
  have Ctold := ok_told Z T2 Ccells (a38.at X G)
  exact ok_law Z F Cdeck Cpkt Ctold Cdraw Codd Clpk Cld Cload Cch Cfit Clload
end
end Kx

open PySem PySem.W PyProof.Rows
set_option maxHeartbeats 0 in
theorem PySem.Challenge.cw_exactbeats_k76_whole_loads_and_cells_jud_holds : PySem.Challenge.rw_exactbeats_k76_whole_loads_and_cells_jud.Holds := by
  w_on; o_law; k_head; (case hw => w_witness2)
  k_fill
  refine L2.walk_of (l := PySem.Challenge.rw_exactbeats_k76_whole_loads_and_cells_jud) (n := 63) (k := 7) (x := "_law_script") (CX := fun _ => L2.CX0) (sp := fun w => Kx.spLaw _) rfl (by decide) rfl ⟨rfl, by decide, by decide⟩ (fun w h Y => PySem.W.kIn_of Y) ?F (fun _ _ a ns hl _ hS => ⟨a, ns, rfl, hS, fun _ => rfl⟩) (fun _ _ _ _ _ h => h)
  case F =>
    intro w mg fa h KX G hmg
    refine' Kx.all_mk KX G hmg ?a1 ?a2 ?a3 ?a18 ?a19 ?a20 ?a21 ?a22 ?a24 ?a25 ?a26 ?a28 ?a29 ?a30 ?a31 ?a32 ?a33 ?a34 ?a35 ?a36 ?a37 ?a38 ?a39 ?z1 ?z2 ?z3 ?z4 ?z5 ?z6 ?z7 ?z8 ?z9 ?z10 ?z11 ?z12 ?m1 ?m2 ?m3 ?m4 ?m5 ?m6 ?m7 ?m8 ?m9 ?gNP ?gFE ?gNO ?xNP ?kNP ?bNP ?tNP ?e1 ?e2 ?e4 ?e5 ?e6 ?e7 ?e8 ?sNP ?sFE ?sNO ?iFE ?iNO ?tFE ?tNO
    (case gNP => k_is)
    (case gFE => k_is)
    (case gNO => k_is)
    (case a1 => exact ⟨by k_is, ⟨_, _, _, _, _, _, _, _, _, by k_is, by k_is⟩, by k_is⟩)
    (case a2 => exact ⟨by k_is, ⟨_, _, _, _, _, _, _, _, _, by k_is, by k_is⟩, by k_is⟩)
    (case a3 => exact ⟨by k_is, ⟨_, _, _, _, _, _, _, _, _, by k_is, by k_is⟩, by k_is⟩)
    (case a18 => exact ⟨by k_is, ⟨_, _, _, _, _, _, _, _, _, by k_is, by k_is⟩, by k_is⟩)
    (case a19 => exact ⟨by k_is, ⟨_, _, _, _, _, _, _, _, _, by k_is, by k_is⟩, by k_is⟩)
    (case a20 => exact ⟨by k_is, ⟨_, _, _, _, _, _, _, _, _, by k_is, by k_is⟩, by k_is⟩)
    (case a21 => exact ⟨by k_is, ⟨_, _, _, _, _, _, _, _, _, by k_is, by k_is⟩, by k_is⟩)
    (case a22 => exact ⟨by k_is, ⟨_, _, _, _, _, _, _, _, _, by k_is, by k_is⟩, by k_is⟩)
    (case a24 => exact ⟨by k_is, ⟨_, _, _, _, _, _, _, _, _, by k_is, by k_is⟩, by k_is⟩)
    (case a25 => exact ⟨by k_is, ⟨_, _, _, _, _, _, _, _, _, by k_is, by k_is⟩, by k_is⟩)
    (case a26 => exact ⟨by k_is, ⟨_, _, _, _, _, _, _, _, _, by k_is, by k_is⟩, by k_is⟩)
    (case a28 => exact ⟨by k_is, ⟨_, _, _, _, _, _, _, _, _, by k_is, by k_is⟩, by k_is⟩)
    (case a29 => exact ⟨by k_is, ⟨_, _, _, _, _, _, _, _, _, by k_is, by k_is⟩, by k_is⟩)
    (case a30 => exact ⟨by k_is, ⟨_, _, _, _, _, _, _, _, _, by k_is, by k_is⟩, by k_is⟩)
    (case a31 => exact ⟨by k_is, ⟨_, _, _, _, _, _, _, _, _, by k_is, by k_is⟩, by k_is⟩)
    (case a32 => exact ⟨by k_is, ⟨_, _, _, _, _, _, _, _, _, by k_is, by k_is⟩, by k_is⟩)
    (case a33 => exact ⟨by k_is, ⟨_, _, _, _, _, _, _, _, _, by k_is, by k_is⟩, by k_is⟩)
    (case a34 => exact ⟨by k_is, ⟨_, _, _, _, _, _, _, _, _, by k_is, by k_is⟩, by k_is⟩)
    (case a35 => exact ⟨by k_is, ⟨_, _, _, _, _, _, _, _, _, by k_is, by k_is⟩, by k_is⟩)
    (case a36 => exact ⟨by k_is, ⟨_, _, _, _, _, _, _, _, _, by k_is, by k_is⟩, by k_is⟩)
    (case a37 => exact ⟨by k_is, ⟨_, _, _, _, _, _, _, _, _, by k_is, by k_is⟩, by k_is⟩)
    (case a38 => exact ⟨by k_is, ⟨_, _, _, _, _, _, _, _, _, by k_is, by k_is⟩, by k_is⟩)
    (case a39 => exact ⟨by k_is, ⟨_, _, _, _, _, _, _, _, _, by k_is, by k_is⟩, by k_is⟩)
    (case z1 => first | k_is | rfl)
    (case z2 => first | k_is | rfl)
    (case z3 => first | k_is | rfl)
    (case z4 => first | k_is | rfl)
    (case z5 => first | k_is | rfl)
    (case z6 => first | k_is | rfl)
    (case z7 => first | k_is | rfl)
    (case z8 => first | k_is | rfl)
    (case z9 => first | k_is | rfl)
    (case z10 => first | k_is | rfl)
    (case z11 => first | k_is | rfl)
    (case z12 => first | k_is | rfl)
    (case m1 => first | k_is | rfl)
    (case m2 => first | k_is | rfl)
    (case m3 => first | k_is | rfl)
    (case m4 => first | k_is | rfl)
    (case m5 => first | k_is | rfl)
    (case m6 => first | k_is | rfl)
    (case m7 => first | k_is | rfl)
    (case m8 => first | k_is | rfl)
    (case m9 => first | k_is | rfl)
    (case xNP => k_exc)
    (case kNP => first | k_is | rfl)
    (case bNP => first | k_is | rfl)
    (case tNP => first | k_is | rfl)
    (case e1 => first | k_is | rfl)
    (case e2 => first | k_is | rfl)
    (case e4 => first | k_is | rfl)
    (case e5 => first | k_is | rfl)
    (case e6 => first | k_is | rfl)
    (case e7 => first | k_is | rfl)
    (case e8 => first | k_is | rfl)
    (case sNP => first | k_is | rfl)
    (case sFE => first | k_is | rfl)
    (case sNO => first | k_is | rfl)
    (case iFE => first | k_is | rfl)
    (case iNO => first | k_is | rfl)
    (case tFE => first | k_is | rfl)
    (case tNO => first | k_is | rfl)

