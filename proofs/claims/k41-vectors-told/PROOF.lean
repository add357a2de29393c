import PyProof.Rows.All
import Wide.All
import OpenK.AllK
import Wide.FinOn
import HandS.Zip
import HandS.TupMul
import KE.GoesMore
import HandS.TupAny
import HandS.Conv
import KE.KDictZip
import HandS.Dict
import KE.DatumOrd
import KE.KTupSum
import HandS.List
import HandS.ForMost
import HandS.Wide
import HandS.Flow
import HandS.Walk
import HandS.IsInst
import HandS.Style
import KE.SortData
import KE.DataCmp
import KE.DataEq
import HandS.Text
import HandS.TupSets
import HandS.SetFor
import PyProof.WalksMore
import PyProof.FactsAll.subtypes_4
import PyProof.Rows.RowHeap
import PyProof.Transfer
import HandS.Strs
import HandS.Deep
import HandS.TryOnly
import HandS.Codes
import PyProof.Rows.Walk
import PyProof.Rows.RegReprOcc
import PySem.Challenge.RW_splitrules_k41_vectors_told
import PyProof.TableCode
section
set_option linter.all false
namespace Pi
/-- are all tuples known to bear no dict (then t.index may be called)? else a dict's keys may be walked -/
def kB : Bool := true
end Pi

end
section
set_option Elab.async false
set_option linter.all false
set_option maxRecDepth 100000
set_option maxHeartbeats 1000000
namespace Pk
open PySem PySem.Spec PyProof.Rows L2
/-! ### lists and (p) tuples in any mix -/
def SqG (K : PySem.W.Frag) (p : Bool) (H : Hp) (a : Addr) (xs : List V) : Prop := match p with
  | true => SqT K H a xs
  | false => SqL K H a xs
def AtG (p : Bool) (h : Heap) (a : Addr) (its : Array Value) : Prop := match p with
  | true => h.IsTuple a its
  | false => h.IsList a its
def ItG (p : Bool) (h : Heap) (it a : Addr) (i : Nat) : Prop := match p with
  | true => h.IsTupleIter it a i
  | false => h.IsListIter it a i
def itO (p : Bool) (a : Addr) : Obj := match p with
  | true => { cls := .type "tuple_iterator", data := .fields #[.ref a, .int 0 0] }
  | false => { cls := .type "list_iterator", data := .fields #[.ref a, .int 0 0] }
theorem drawsG {prog : Program} {w : World} {A : Around} (hh : A.handled = none) (p : Bool) (it a : Addr) (hne : a ≠ it) (items : Array Value) : Draws prog w A it [it, a] items.size (fun i v => items[i]? = some v) (fun i h => ItG p h it a i ∧ AtG p h a items) := by
  cases p with
  | true => exact Draws.tuple hh it a hne items
  | false => exact Draws.list hh it a hne items
theorem beginsG (p : Bool) (a : Addr) (items : Array Value) : Begins (.ref a) (itO p a) fun h => AtG p h a items := by
  cases p with
  | true => exact begins_tuple a items
  | false => exact begins_list a items
theorem ItG.keep {p : Bool} {h h' : Heap} {it a : Addr} {i : Nat} (q : ItG p h it a i) (k : ∀ o, h.get? it = some o → h'.get? it = some o) : ItG p h' it a i := by
  cases p with
  | true => exact Heap.IsTupleIter.at q k
  | false => exact Heap.IsListIter.at q k
theorem ItG.there {p : Bool} {h : Heap} {it a : Addr} {i : Nat} (q : ItG p h it a i) : ∃ o vs, h.get? it = some o ∧ o.data = .fields vs := by
  cases p with
  | true => obtain ⟨o, e, _, d⟩ := q; exact ⟨o, _, e, d⟩
  | false => obtain ⟨o, e, _, d⟩ := q; exact ⟨o, _, e, d⟩
theorem ItG.new {p : Bool} {h : Heap} {it a : Addr} (e : h.get? it = some (itO p a)) : ItG p h it a 0 := by
  cases p with
  | true => exact ⟨_, e, rfl, rfl⟩
  | false => exact ⟨_, e, rfl, rfl⟩
section
variable {X : Cx} {pins : List (Addr × Obj)} {σ : L2.St} {H : Hp} {s : Shared} {a : Addr} {xs ys : List V} {p : Bool}
theorem inv_sq (I : Inv X pins σ H s) (h : SqG X.K p H a xs) : ∃ its : List Value, Vals xs its ∧ AtG p s.heap a its.toArray ∧ a < s.heap.objs.size := by
  cases p with
  | true =>
    obtain ⟨its, r, q, _⟩ := I.tuple h
    obtain ⟨o, e, _⟩ := id q
    exact ⟨its, r, q, Heap.lt_size e⟩
  | false =>
    obtain ⟨its, r, q, _⟩ := I.list h
    exact ⟨its, r, q.isList, q.lt⟩
theorem inv_inj (I : Inv X pins σ H s) (h : SqG X.K p H a xs) (h' : SqG X.K p H a ys) : xs = ys := by
  cases p with
  | true => exact I.tuple_inj h h'
  | false => exact I.list_inj h h'
end
/-! ### zip -/
structure Sep (z TI TO i1 i2 a b : Addr) : Prop where
  s : ZipSep2 z TI TO i1 i2 [i1, a] [i2, b]
  n1 : a ≠ i1
  n2 : b ≠ i2
theorem ne_adr {i j : Nat} (h : i ≠ j) : @Ne Addr i j := h
theorem nm_adr {c x y : Nat} (h : c ≠ x) (h' : c ≠ y) : ¬ @List.Mem Addr c [x, y] := fun z => match z with
  | .head _ => h rfl
  | .tail _ (.head _) => h' rfl
theorem sep_new {n a b : Nat} (ha : a < n) (hb : b < n) : Sep (n + 4) (n + 2) (n + 3) n (n + 1) a b :=
  ⟨⟨ne_adr (by omega), ne_adr (by omega), ne_adr (by omega), ne_adr (by omega), .head _, nm_adr (by omega) (by omega), nm_adr (by omega) (by omega), ne_adr (by omega), .head _, nm_adr (by omega) (by omega), nm_adr (by omega) (by omega), nm_adr (by omega) (by omega), nm_adr (by omega) (by omega)⟩, Nat.ne_of_lt ha, ne_adr (by omega)⟩
/-- a new known pair -/
def YPairK (xs ys : Nat → Option V) : Nat → Hp → V → Hp → Prop := fun i H v H' => ∃ T x y o, v = .ref T ∧ H T = none ∧ o.dict = none ∧ H' = upd H T (.frz o (.tup [x, y])) ∧ xs i = some x ∧ ys i = some y
def ItzG (K : PySem.W.Frag) (p q : Bool) (a b : Addr) : It :=
  ⟨fun i H => ∃ (xs ys : List V) (x y : V), SqG K p H a xs ∧ SqG K q H b ys ∧ xs[i]? = some x ∧ ys[i]? = some y,
    fun i H v H' => ∃ T x y o, v = .ref T ∧ H T = none ∧ o.dict = none ∧ H' = upd H T (.frz o (.tup [x, y])) ∧ (∀ xs, SqG K p H a xs → xs[i]? = some x) ∧ ∀ ys, SqG K q H b ys → ys[i]? = some y,
    fun i H => ∃ xs ys : List V, SqG K p H a xs ∧ SqG K q H b ys ∧ i = min xs.length ys.length⟩
theorem turn_zipG {P : Program} {w : World} {K : PySem.W.Frag} {elts : List Expr} {kk : Nat} {tpos : Pos} {p q : Bool} {a b z TI TO i1 i2 : Addr} (D : Sep z TI TO i1 i2 a b) :
    Turn P w K (.Tuple elts kk tpos) (ItzG K p q a b) [z, TI, TO, i1, i2] z (fun i h => IsZip h z TI TO .none ∧ IsPair h TI (.ref i1) (.ref i2) ∧ (∃ x y, IsPair h TO x y) ∧ ItG p h i1 a i ∧ ItG q h i2 b i) where
  mem := List.mem_cons_self
  obj := fun i h st c hc => by
    obtain ⟨hz, hTI, ⟨x, y, hTO⟩, h1, h2⟩ := st
    simp only [List.mem_cons, List.not_mem_nil, or_false] at hc
    obtain ⟨o1, v1, e1, d1⟩ := h1.there
    obtain ⟨o2, v2, e2, d2⟩ := h2.there
    rcases hc with rfl | rfl | rfl | rfl | rfl
    · exact ⟨_, hz, fun _ z => nomatch z⟩
    · exact ⟨_, hTI, fun _ z => nomatch z⟩
    · exact ⟨_, hTO, fun _ z => nomatch z⟩
    · exact ⟨o1, e1, fun v z => by rw [d1] at z; cases z⟩
    · exact ⟨o2, e2, fun v z => by rw [d2] at z; cases z⟩
  keep := fun i h h' ⟨hz, hTI, ⟨x, y, hTO⟩, h1, h2⟩ k =>
    ⟨k z (by simp) _ hz, k TI (by simp) _ hTI, ⟨x, y, k TO (by simp) _ hTO⟩, h1.keep fun o => k i1 (by simp) o, h2.keep fun o => k i2 (by simp) o⟩
  item := by
    intro X hP hw hK hc i pins s σ H E I hf st hg
    subst hP hw hK
    obtain ⟨hz, hTI, ⟨x0, y0, hTO⟩, h1, h2⟩ := st
    obtain ⟨xs, ys, x, y, hqx, hqy, hx, hy⟩ := hg
    obtain ⟨us, rx, px, lx⟩ := inv_sq I hqx
    obtain ⟨vs, ry, py, ly⟩ := inv_sq I hqy
    obtain ⟨u, hu, ru⟩ := rx.get hx
    obtain ⟨v, hv, rv⟩ := ry.get hy
    have hu' : us.toArray[i]? = some u := by simpa using hu
    have hv' : vs.toArray[i]? = some v := by simpa using hv
    have hh : X.A.in1.handled = none := I.ok.hd hc
    refine wpAny_pyNext_zipD2_item D.s (drawsG hh p i1 a D.n1 us.toArray) (drawsG hh q i2 b D.n2 vs.toArray) hz hTI hTO ⟨h1, px⟩ ⟨h2, py⟩ (Array.getElem?_eq_some_iff.mp hu').1 (Array.getElem?_eq_some_iff.mp hv').1 fun x1 x2 h' tk e1 e2 z1 TO1 st1 st2 hT hsz hk => ?_
    obtain rfl : u = x1 := Option.some.inj (hu'.symm.trans e1)
    obtain rfl : v = x2 := Option.some.inj (hv'.symm.trans e2)
    have lt : ∀ c, c ∈ [z, TI, TO, i1, i2] → c < s.heap.objs.size := fun c hcm => by
      obtain ⟨_, _, f1, _⟩ := h1.there
      obtain ⟨_, _, f2, _⟩ := h2.there
      simp only [List.mem_cons, List.not_mem_nil, or_false] at hcm
      rcases hcm with rfl | rfl | rfl | rfl | rfl
      · exact Heap.lt_size hz
      · exact Heap.lt_size hTI
      · exact Heap.lt_size hTO
      · exact Heap.lt_size f1
      · exact Heap.lt_size f2
    refine ⟨_, rfl, wpAny_letOwnedTupleGo_zip (s := { s with heap := h', toks := tk }) z1 fun h2' z2 sb => ?_⟩
    have hT2 : h2'.get? s.heap.objs.size = some { cls := .type "tuple", data := .seq #[u, v] } := (sb.2 _ (Nat.ne_of_gt (lt z (by simp)))).trans hT
    have fr : ∀ c o, c ≠ z → h'.get? c = some o → h2'.get? c = some o := fun c o n e => (sb.2 c n).trans e
    have I1 : Inv X pins σ (upd H s.heap.objs.size (.frz { cls := .type "tuple", data := .seq #[u, v] } (.tup [x, y]))) { s with heap := h2', toks := tk } :=
      I.turnedNew (ch := [z, TI, TO, i1, i2]) (fun c o hb e => by
        simp only [List.mem_cons, List.not_mem_nil, or_false, not_or] at hb
        exact fr c o hb.1 (hk c o hb.1 hb.2.2.1 hb.2.2.2.1 hb.2.2.2.2 e)) hf (Nat.le_refl _) ⟨hT2, by show 2 ≤ sizeLine; decide, [u, v], .cons ru (.cons rv .nil), ⟨_, hT2, rfl, _, rfl⟩⟩
    have n1z : i1 ≠ z := D.s.zi1.symm
    have n2z : i2 ≠ z := D.s.zi2.symm
    refine ⟨.ref s.heap.objs.size, _, I1, rfl, ⟨_, x, y, _, rfl, I.hok.fresh (Nat.le_refl _), rfl, rfl, fun l hl => by rw [inv_inj I hl hqx]; exact hx, fun l hl => by rw [inv_inj I hl hqy]; exact hy⟩,
      ⟨z2, fr _ _ D.s.TIz (hk TI _ D.s.TIz D.s.TITO D.s.TIi1 D.s.TIi2 hTI), ⟨u, v, fr _ _ D.s.TOz TO1⟩, st1.1.keep fun o => fr i1 o n1z, st2.1.keep fun o => fr i2 o n2z⟩, fun c hcm => ?_⟩
    rw [upd_ne (Nat.ne_of_lt (lt c hcm))]
    exact (hf c hcm).1
  done := by
    intro X hP hw hK hc i pins s σ H E I hf st hg
    subst hP hw hK
    obtain ⟨hz, hTI, ⟨x0, y0, hTO⟩, h1, h2⟩ := st
    obtain ⟨xs, ys, hqx, hqy, hend⟩ := hg
    obtain ⟨us, rx, px, lx⟩ := inv_sq I hqx
    obtain ⟨vs, ry, py, ly⟩ := inv_sq I hqy
    have e1 : us.toArray.size = xs.length := by rw [List.size_toArray, rx.length]
    have e2 : vs.toArray.size = ys.length := by rw [List.size_toArray, ry.length]
    have hh : X.A.in1.handled = none := I.ok.hd hc
    exact wpAny_pyNext_zipD2_end D.s (drawsG hh p i1 a D.n1 us.toArray) (drawsG hh q i2 b D.n2 vs.toArray) hz hTI hTO ⟨h1, px⟩ ⟨h2, py⟩ (by omega) (by omega) (by omega) fun h' tk hk => ⟨rfl, I.turnedL (t' := tk) (ch := [z, TI, TO, i1, i2]) (fun c o hb e => by
      simp only [List.mem_cons, List.not_mem_nil, or_false, not_or] at hb
      exact hk c o hb.1 hb.2.2.1 hb.2.2.2.1 hb.2.2.2.2 e) hf⟩
  self := fun A i s Q E st h => wpAny_pyIter_zip st.1 h
def iZipG (K : PySem.W.Frag) (ta : TA) : TI := fun σ H R => ta σ H fun vs H1 => ∃ p q a b xs ys, vs = [.ref a, .ref b] ∧ SqG K p H1 a xs ∧ SqG K q H1 b ys ∧ R (ItzG K p q a b) H1
theorem pi_zipG {X : Cx} {e e2 : Expr} {ta : TA} {p pos tpos : Pos} {elts : List Expr} {kk : Nat} (hg : Gl X "zip") (hm : X.mg "zip" = none) (ha : PA X [e, e2] ta)
    (hs : starEach [e, e2] X.env = (false, eval e X.env) :: starEach [e2] X.env := by rfl) (hpl : (backTo pos (starEach [e2] X.env)).any (·.1) = false := by rfl) :
    PI X (.Tuple elts kk tpos) (.Call (.Name "zip" p) [e, e2] [] pos) (iZipG X.K ta) := by
  constructor
  intro pins s σ H R I h
  refine Call_ (ld_blt I hg hm PyProof.Rows.boot_zip (PyProof.Rows.callWith_type1 (thn (ha.run pos pins s σ H _ I h) ?_) hs hpl))
  rintro us s1 ⟨vs, H1, I1, r1, f, g, a, b, xs, ys, rfl, hqx, hqy, q⟩
  cases r1 with
  | cons ru rr =>
    cases rr with
    | cons rv rr =>
      cases rr
      cases ru
      cases rv
      obtain ⟨us, rx, px, lx⟩ := inv_sq I1 hqx
      obtain ⟨vs, ry, py, ly⟩ := inv_sq I1 hqy
      refine zip_begins2 (s := s1) (beginsG f a us.toArray) (beginsG g b vs.toArray) px py ?_
      intro h' hz hTI hTO h1 h2 hsz hk
      refine wpAny_pyIter_zip hz ?_
      refine ⟨s1.heap.objs.size + 4, [s1.heap.objs.size + 4, s1.heap.objs.size + 2, s1.heap.objs.size + 3, s1.heap.objs.size, s1.heap.objs.size + 1], _, _, H1, rfl, I1.kept (t' := s1.toks) hk,
        turn_zipG (p := f) (q := g) (a := a) (b := b) (sep_new lx ly), ⟨hz, hTI, ⟨_, _, hTO⟩, .new h1, .new h2⟩, ?_, q⟩
      intro c hcm
      have hle : s1.heap.objs.size ≤ c := by
        simp only [List.mem_cons, List.not_mem_nil, or_false] at hcm
        rcases hcm with rfl | rfl | rfl | rfl | rfl
        · exact Nat.le_add_right _ _
        · exact Nat.le_add_right _ _
        · exact Nat.le_add_right _ _
        · exact Nat.le_refl _
        · exact Nat.le_add_right _ _
      exact I1.fpOk hle (I1.hok.fresh hle)
/-! ### enumerate -/
def IteG (K : PySem.W.Frag) (p : Bool) (a : Addr) : It :=
  ⟨fun i H => ∃ (xs : List V) (x : V), SqG K p H a xs ∧ xs[i]? = some x, fun i H v H' => ∃ T x o, v = .ref T ∧ H T = none ∧ o.dict = none ∧ H' = upd H T (.frz o (.tup [.int (i : Nat), x])) ∧ ∀ xs, SqG K p H a xs → xs[i]? = some x, fun i H => ∃ xs : List V, SqG K p H a xs ∧ i = xs.length⟩
theorem turn_enumG {P : Program} {w : World} {K : PySem.W.Frag} {elts : List Expr} {kk : Nat} {tpos : Pos} {p : Bool} {a e it : Addr} (hne : e ≠ it) (hea : e ≠ a) (hia : a ≠ it) :
    Turn P w K (.Tuple elts kk tpos) (IteG K p a) [e, it] e (fun i h => (∃ old, IsEnum h e it ((i : Nat) : Int) old) ∧ ItG p h it a i) where
  mem := List.mem_cons_self
  obj := fun i h ⟨⟨old, he⟩, h1⟩ b hb => by
    obtain ⟨o1, v1, e1, d1⟩ := h1.there
    simp only [List.mem_cons, List.not_mem_nil, or_false] at hb
    rcases hb with rfl | rfl
    · exact ⟨_, he, fun _ z => nomatch z⟩
    · exact ⟨o1, e1, fun v z => by rw [d1] at z; cases z⟩
  keep := fun i h h' ⟨⟨old, he⟩, h1⟩ k => ⟨⟨old, k e (by simp) _ he⟩, h1.keep fun o => k it (by simp) o⟩
  item := by
    intro X hP hw hK hc i pins s σ H E I hf st hg
    subst hP hw hK
    obtain ⟨⟨old, he⟩, h1⟩ := st
    obtain ⟨xs, x, hq, hx⟩ := hg
    obtain ⟨us, rx, px, lx⟩ := inv_sq I hq
    obtain ⟨u, hu, ru⟩ := rx.get hx
    have hu' : us.toArray[i]? = some u := by simpa using hu
    have hh : X.A.in1.handled = none := I.ok.hd hc
    have hel : e < s.heap.objs.size := Heap.lt_size he
    have hil : it < s.heap.objs.size := by obtain ⟨_, _, z, _⟩ := h1.there; exact Heap.lt_size z
    refine wpAny_pyNext_enum_itemD (drawsG hh p it a hia us.toArray) he ⟨h1, px⟩ (Array.getElem?_eq_some_iff.mp hu').1 hne (by simp; exact ⟨hne, hea⟩) fun x1 h' tk e1 ho st1 hT hsz hk => ?_
    obtain rfl : u = x1 := Option.some.inj (hu'.symm.trans e1)
    refine ⟨_, rfl, wpAny_letOwnedTupleGo_enum (s := { s with heap := h', toks := tk + 1 }) ho fun h2' he2 sb => ?_⟩
    have hT2 : h2'.get? s.heap.objs.size = some { cls := .type "tuple", data := .seq #[.int i tk, u] } := (sb.2 _ (Nat.ne_of_gt hel)).trans hT
    have I1 : Inv X pins σ (upd H s.heap.objs.size (.frz { cls := .type "tuple", data := .seq #[.int i tk, u] } (.tup [.int (i : Nat), x]))) { s with heap := h2', toks := tk + 1 } :=
      I.turnedNew (ch := [e, it]) (fun c o hb z => by
        simp only [List.mem_cons, List.not_mem_nil, or_false, not_or] at hb
        exact (sb.2 c hb.1).trans (hk c o hb.1 hb.2 z)) hf (Nat.le_refl _) ⟨hT2, by show 2 ≤ sizeLine; decide, [.int i tk, u], .cons ⟨_, rfl⟩ (.cons ru .nil), ⟨_, hT2, rfl, _, rfl⟩⟩
    refine ⟨.ref s.heap.objs.size, _, I1, rfl, ⟨_, x, _, rfl, I.hok.fresh (Nat.le_refl _), rfl, rfl, fun l hl => by rw [inv_inj I hl hq]; exact hx⟩, ⟨⟨u, ?_⟩, st1.1.keep fun o z => (sb.2 it (Ne.symm hne)).trans z⟩, fun c hcm => ?_⟩
    · rw [show ((i + 1 : Nat) : Int) = (i : Int) + 1 by omega]
      exact he2
    · have hlt : c < s.heap.objs.size := by
        simp only [List.mem_cons, List.not_mem_nil, or_false] at hcm
        rcases hcm with rfl | rfl
        · exact hel
        · exact hil
      rw [upd_ne (Nat.ne_of_lt hlt)]
      exact (hf c hcm).1
  done := by
    intro X hP hw hK hc i pins s σ H E I hf st hg
    subst hP hw hK
    obtain ⟨⟨old, he⟩, h1⟩ := st
    obtain ⟨xs, hq, hx⟩ := hg
    obtain ⟨us, rx, px, lx⟩ := inv_sq I hq
    have e1 : us.toArray.size = i := by rw [List.size_toArray, ← rx.length]; exact hx.symm
    have hh : X.A.in1.handled = none := I.ok.hd hc
    obtain ⟨f0, f1, f2, f3, f4, f5⟩ := hf it (by simp)
    exact wpAny_pyNext_enum_endD (drawsG hh p it a hia us.toArray) he (by rw [e1]; exact ⟨h1, px⟩) fun h' eb => ⟨rfl, I.turned (t' := s.toks) (fun b o hb z => eb b o hb z) f0 f1 f3 f4 f5⟩
  self := fun A i s Q E ⟨⟨_, he⟩, _⟩ h => wpAny_pyIter_enum he h
theorem meets_enum1 {v : Value} {o : Obj} {F : Heap → Prop} (B : Begins v o F) :
    Meets (Builtin.«enumerate.__new__» ⟨[.type "enumerate", v], []⟩) (fun _ R s => F s.heap ∧
      R (.ok (.ret (.ref (s.heap.push o).objs.size))) { s with heap := (s.heap.push o).push { cls := .type "enumerate", data := .fields #[.none, .bool false, .ref s.heap.objs.size, rawInt 0, .none, .none] } }) :=
  .of_wp fun prog w A R s ⟨h1, h⟩ => by
    obtain ⟨hp, g, d, tk, os⟩ := s
    have begin_ : ∀ {A' : Around} {E : Value → Shared → Prop} {Q : Value → Shared → Prop}, Q (.ref hp.objs.size) ⟨hp.push o, g, d, tk, os⟩ → wpAny (model prog w) A' (pyIter v) Q E ⟨hp, g, d, tk, os⟩ := fun z => B.iter prog w _ _ ⟨hp, g, d, tk, os⟩ _ h1 z
    have hsub := sub_enumerate
    wp_walk using begin_
    refine wpAny_stack_any fun st => wpAny_pure ?_
    split
    · rename_i c _ _ _ _ _
      cases (c == Value.type "enumerate") <;> (wp_walk using begin_; exact ⟨_, rfl, h⟩)
    · wp_walk using begin_
      exact ⟨_, rfl, h⟩
def iEnumG (K : PySem.W.Frag) (ta : TA) : TI := fun σ H R => ta σ H fun vs H1 => ∃ p a xs, vs = [.ref a] ∧ SqG K p H1 a xs ∧ R (IteG K p a) H1
theorem pi_enumG {X : Cx} {e : Expr} {ta : TA} {p pos tpos : Pos} {elts : List Expr} {kk : Nat} (hg : Gl X "enumerate") (hm : X.mg "enumerate" = none) (ha : PA X [e] ta) (hs : starEach [e] X.env = [(false, eval e X.env)] := by rfl) :
    PI X (.Tuple elts kk tpos) (.Call (.Name "enumerate" p) [e] [] pos) (iEnumG X.K ta) := ⟨fun pins s σ H R I h => by
  refine Call_ (ld_blt I hg hm boot_enumerate (PyProof.Rows.callWith_type1 (thn (ha.run pos pins s σ H _ I h) fun us s1 ⟨vs, H1, I1, r1, f, a, xs, ex, hqx, q⟩ => ?_) hs rfl))
  subst ex
  obtain ⟨u, rfl, ru⟩ : ∃ u, us = [u] ∧ RelV (.ref a) u := match us, r1 with
    | _, .cons r .nil => ⟨_, rfl, r⟩
  obtain rfl : u = Value.ref a := ru
  obtain ⟨us, rx, px, lx⟩ := inv_sq I1 hqx
  have hz : (s1.heap.push (itO f a)).objs.size = s1.heap.objs.size + 1 := Heap.size_push ..
  refine callType_new F.called_enumerate (by decide) (F.typeCall_enumerate_1 _) (F.newCall_enumerate_1 _) (fun obj => F.args_object_init_2 obj _) F.entry_enumerate_new (meets_enum1 (beginsG f a us.toArray)) ⟨px, ?_⟩
  show _ ∧ _
  rw [hz]
  have he := Heap.get?_push_size (s1.heap.push (itO f a)) (o := { cls := .type "enumerate", data := .fields #[.none, .bool false, .ref s1.heap.objs.size, rawInt 0, .none, .none] }) rfl
  rw [hz] at he
  have up : ∀ b o, s1.heap.get? b = some o → ((s1.heap.push (itO f a)).push { cls := .type "enumerate", data := .fields #[.none, .bool false, .ref s1.heap.objs.size, rawInt 0, .none, .none] }).get? b = some o := fun b o z => Heap.get?_push_of_some _ (Heap.get?_push_of_some _ z)
  refine ⟨⟨_, he, rfl⟩, wpAny_pyIter_enum he ⟨s1.heap.objs.size + 1, [s1.heap.objs.size + 1, s1.heap.objs.size], _, _, H1, rfl, I1.kept (t' := s1.toks) up,
    turn_enumG (p := f) (a := a) (ne_adr (by omega)) (ne_adr (Nat.ne_of_gt (Nat.lt_succ_of_lt lx))) (Nat.ne_of_lt lx), ⟨⟨.none, he⟩, .new (Heap.get?_push_of_some _ (Heap.get?_push_size _ (beginsG f a us.toArray).free))⟩, fun c hcm => ?_, q⟩⟩
  have hle : s1.heap.objs.size ≤ c := by
    simp only [List.mem_cons, List.not_mem_nil, or_false] at hcm
    rcases hcm with rfl | rfl
    · exact Nat.le_add_right _ _
    · exact Nat.le_refl _
  exact I1.fpOk hle (I1.hok.fresh hle)⟩
/-! ### a tuple times 1: the tuple itself -/
theorem tuple_mul1 (l : Addr) (items : Array Value) (n : Nat) (dd : Option Addr) (sl : Array (Option Value)) (u : Tok) :
    Meets (Builtin.«tuple.__mul__» ⟨[.ref l, .int 1 u], []⟩) (fun _ R s => s.heap.get? l = some { cls := .type "tuple", dict := dd, data := .seq items n, slots := sl } ∧ R (.ok (.ret (Value.ref l))) s) :=
  .of_wp fun prog w A R s ⟨hl, h⟩ => by
    obtain ⟨hp, g, d, tk, os⟩ := s
    have f1 := AutoSeq1.idx_int
    have c1 : (items.isEmpty || (1 : Int) == 1) = true := by simp
    wp_walk using AutoSeq1.wpAny_loadPart' hl
    repeat (first
      | (refine wpAny_ite_true (decide_eq_true c1) ?_; wp_walk using AutoSeq1.wpAny_loadPart' hl)
      | (refine wpAny_ite_true c1 ?_; wp_walk using AutoSeq1.wpAny_loadPart' hl))
    exact ⟨_, rfl, h⟩
def rRepT1 (K : PySem.W.Frag) : R2 := fun x y H Q => ∃ l xs, x = .ref l ∧ y = .int 1 ∧ SqT K H l xs ∧ Q (.ref l) H
theorem op_repT1 {X : Cx} : OpR X (binaryOp .Mult) (rRepT1 X.K) := by
  rintro pins s σ H x y v u Q I rx ry ⟨l, xs, rfl, rfl, hT, q⟩
  obtain rfl : v = Value.ref l := rx
  obtain ⟨t, rfl⟩ := ry
  obtain ⟨its, r, ⟨⟨cls, dd, data, sl⟩, ho, hc, n, hd⟩, hs⟩ := I.tuple hT
  simp only at hc hd
  subst hc hd
  exact wpAny_binaryOp_repeat_ref (T := "tuple") (U := "int") (by decide) ⟨_, ho, rfl⟩ (fun s' => typeIs_int s' 1 t) noFill_tuple_mul F.fills_int_mul F.slot_int_rmul repeat_tuple F.slot_int_index.lookup
    (call_meets F.slot_int_rmul (typeIs_int s 1 t) F.entry_int_rmul (F.args_int_rmul_2 _ _) (int_rmul_tuple 1 t l its.toArray n dd sl)
      ⟨ho, rfl, ⟨_, ho, rfl⟩, call_meets F.slot_tuple_mul ⟨_, ho, rfl⟩ F.entry_tuple_mul (F.args_tuple_mul_2 _ _) (tuple_mul1 l its.toArray n dd sl t) ⟨ho, .ref l, H, I, rfl, q⟩⟩)
end Pk

end
section
set_option Elab.async false
set_option linter.all false
set_option maxRecDepth 100000
set_option maxHeartbeats 1000000
namespace Pk
open PySem PySem.Spec PyProof.Rows L2
/-! ### new tuples, whose object is known to bear no dict -/
def tob (its : List Value) : Obj := { cls := .type "tuple", data := .seq its.toArray }
/-- a new known tuple -/
def KnQ (H : Hp) (ys : List V) (Q : VK) : Prop := ∀ (p : Addr) (o : Obj), H p = none → o.dict = none → Q (.ref p) (upd H p (.frz o (.tup ys)))
section
variable {X : Cx} {pins : List (Addr × Obj)} {σ : L2.St} {H : Hp} {s : Shared} {ys : List V} {its : List Value} {Q : VK}
theorem inv_kn (I : Inv X pins σ H s) (hv : Vals ys its) (hz : ys.length ≤ sizeLine) : Inv X pins σ (upd H s.heap.objs.size (.frz (tob its) (.tup ys))) { s with heap := s.heap.push (tob its) } :=
  I.laid (o := .frz (tob its) (.tup ys)) (t' := s.toks) (fun _ _ z => Heap.get?_push_of_some _ z) (Nat.le_refl _) ⟨Heap.get?_push_size _ rfl, hz, its, hv, ⟨_, Heap.get?_push_size _ rfl, rfl, _, rfl⟩⟩
/-- what a rule that makes one tells -/
theorem ep_kn (I : Inv X pins σ H s) (hv : Vals ys its) (hz : ys.length ≤ sizeLine) (q : KnQ H ys Q) : EP X pins σ Q (.ref s.heap.objs.size) { s with heap := s.heap.push (tob its) } :=
  ⟨.ref s.heap.objs.size, _, inv_kn I hv hz, rfl, q _ _ (I.hok.fresh (Nat.le_refl _)) rfl⟩
end
section
variable {X : Cx}
/-- (a, b) -/
def tTupK (t : TA) : TE := fun σ H Q => t σ H fun xs H1 => xs.length ≤ sizeLine ∧ KnQ H1 xs Q
theorem pe_tupK {es : List Expr} {t : TA} {pos : Pos} {k : Nat} (h : PA X es t) : PE X (.Tuple es k pos) (tTupK t) := ⟨fun pins s σ H Q I hq =>
  wpAny_Tuple_spliced (thn (h.run pos pins s σ H _ I hq) fun us s1 ⟨xs, H1, I1, r, z, q⟩ => ⟨r.length ▸ z, ep_kn I1 r z q⟩)⟩
/-- tuple(x) -/
def rTupleK (K : PySem.W.Frag) : List V → Hp → VK → Prop := fun xs H Q => ∃ p ys, xs = [.ref p] ∧ ((SqL K H p ys ∧ KnQ H ys Q) ∨ (SqT K H p ys ∧ Q (.ref p) H))
theorem call_tupleK : CallR X (.type "tuple") (rTupleK X.K) := by
  rintro pins s σ H xs us Q I r ⟨p, ys, rfl, h⟩
  obtain ⟨u, rfl, ru⟩ := vals1 r
  obtain rfl : u = Value.ref p := ru
  rcases h with ⟨hq, q⟩ | ⟨hq, q⟩
  · obtain ⟨its, rv, pl, hz⟩ := I.list hq
    exact call_tuple_list pl.isList (fun h' kp => ep_kn (s := { s with heap := h' }) (I.kept (t' := s.toks) kp) rv hz q) (by rw [List.size_toArray]; exact rv.length ▸ hz)
  · obtain ⟨its, rv, pl, hz⟩ := I.tuple hq
    exact call_tuple_same pl ⟨.ref p, H, I, rfl, q⟩
/-- tuple(range(..)) -/
def tTupRgK (te : L2.St → Hp → (Int → Int → Hp → Prop) → Prop) : TE := fun σ H Q => te σ H fun a b H1 => RgOk a b ∧ KnQ H1 (rgV a b) Q
theorem pe_tupRgK {e : Expr} {te : L2.St → Hp → (Int → Int → Hp → Prop) → Prop} {p pos : Pos} (hc : X.calm = true) (hg : Gl X "tuple") (hm : X.mg "tuple" = none) (he : PRg X e te) (na : starEach [e] X.env = (false, eval e X.env) :: starEach [] X.env := by rfl) :
    PE X (.Call (.Name "tuple" p) [e] [] pos) (tTupRgK te) := ⟨fun pins s σ H Q I h => by
  refine Call_ (ld_blt I hg hm boot_tuple (PyProof.Rows.callWith_type1 (args_cons (thn (he pins s σ H _ I h) ?_) na) na))
  rintro x s1 ⟨r, a, b, t, u, v, H1, rfl, hr, I1, ⟨b1, b2, b3, b4, b5⟩, q⟩
  refine args_nil (call_tuple_range (n := (b - a).toNat) (I1.ok.hd hc) hr (small_one b1 b2 b3 b4) (rangeSize_nat a b) b5 fun h' tk acc hk hi => ?_)
  have := ep_kn (s := { s1 with heap := h', toks := tk }) (I1.kept hk) (vals_rg hi) (by rw [rgV_length, sizeLine_eq]; omega) q
  unfold tob at this
  rwa [Array.toArray_toList] at this⟩
/-- t + u -/
def rCatK (K : PySem.W.Frag) : R2 := fun x y H Q => ∃ a b xs ys, x = .ref a ∧ y = .ref b ∧ SqT K H a xs ∧ SqT K H b ys ∧ xs.length + ys.length ≤ sizeLine ∧
  (xs = [] → Q (.ref b) H) ∧ (xs ≠ [] → ys = [] → Q (.ref a) H) ∧ (xs ≠ [] → ys ≠ [] → KnQ H (xs ++ ys) Q)
theorem op_catK : OpR X (binaryOp .Add) (rCatK X.K) := by
  rintro pins s σ H x y v u Q I rx ry ⟨a, b, xs, ys, rfl, rfl, ha, hb, hz, q0, q1, q2⟩
  obtain rfl : v = Value.ref a := rx
  obtain rfl : u = Value.ref b := ry
  obtain ⟨us, r1, p1, _⟩ := I.tuple ha
  obtain ⟨vs, r2, p2, _⟩ := I.tuple hb
  by_cases hx : xs = []
  · subst hx
    cases r1
    exact cat_tup0 p1 p2 ⟨.ref b, H, I, rfl, q0 rfl⟩
  · have hl : (us ++ vs).length ≤ sizeLine := by rw [List.length_append, ← r1.length, ← r2.length]; exact hz
    refine HT.cat_tup p1 p2 (fun z => hx (r1.nil_iff.mp z)) (fun z => ⟨.ref a, H, I, rfl, q1 hx (r2.nil_iff.mp z)⟩) (fun z => ?_) (by rwa [List.length_append] at hl)
    exact ep_kn I (r1.append r2) (by rw [List.length_append]; exact hz) (q2 hx fun w => z (r2.nil_iff.mpr w))
/-- t[lo:hi] -/
def rSlK (K : PySem.W.Frag) : V → Option Int → Option Int → Hp → VK → Prop := fun x lo hi H Q => ∃ a xs, x = .ref a ∧ SqT K H a xs ∧
  (HT.sIx xs.length 0 lo = 0 ∧ HT.sIx xs.length xs.length hi = xs.length → Q (.ref a) H) ∧ (¬ (HT.sIx xs.length 0 lo = 0 ∧ HT.sIx xs.length xs.length hi = xs.length) → KnQ H (cutV xs lo hi) Q)
theorem sl_tupK : SlR X (rSlK X.K) := by
  rintro pins s σ H x v vl vu lo hi sl Q I rx hs pl pu ⟨a, xs, rfl, hx, q1, q2⟩
  by_cases hw : HT.sIx xs.length 0 lo = 0 ∧ HT.sIx xs.length xs.length hi = xs.length
  · exact sl_tupA pins s σ H _ v vl vu lo hi sl Q I rx hs pl pu ⟨a, xs, rfl, hx, q1, fun z => absurd hw z⟩
  · obtain rfl : v = Value.ref a := rx
    obtain ⟨us, r, ht, hz⟩ := I.tuple hx
    have hlen : us.toArray.size = xs.length := List.size_toArray.trans r.length.symm
    refine ⟨"tuple", _, PyProof.Rows.slot_tuple_getitem.lookup, ht.typeIs, HT.getItem_tuple_cut ht hs pl pu (hlen ▸ hw) ?_ (hlen ▸ hz)⟩
    rw [hlen]
    exact ep_kn I ((r.drop _).take _) (Nat.le_trans (cutV_length xs lo hi) hz) (q2 hw)
/-- t * k, 2 ≤ k -/
def rRepK (K : PySem.W.Frag) : R2 := fun x y H Q => ∃ l k xs, x = .ref l ∧ y = .int k ∧ SqT K H l xs ∧ xs ≠ [] ∧ 2 ≤ k ∧ k ≤ 1000 ∧ xs.length ≤ 1000 ∧ KnQ H (List.replicate k.toNat xs).flatten Q
theorem op_repK : OpR X (binaryOp .Mult) (rRepK X.K) := by
  rintro pins s σ H x y v u Q I rx ry ⟨l, k, xs, rfl, rfl, hT, hne, h1, h2, hz, q⟩
  obtain rfl : v = Value.ref l := rx
  obtain ⟨t, rfl⟩ := ry
  obtain ⟨us, r, ⟨⟨cls, dd, data, sl⟩, ho, hc, n, hd⟩, _⟩ := I.tuple hT
  simp only at hc hd
  subst hc hd
  have hle : us.length = xs.length := r.length.symm
  have hpos : 0 < us.length := by
    rcases Nat.eq_zero_or_pos us.length with z | z
    · exact absurd (List.eq_nil_of_length_eq_zero (hle.symm.trans z)) hne
    · exact z
  have hemp : us.toArray.isEmpty = false := by
    rcases us with _ | ⟨a, b⟩
    · exact absurd hpos (Nat.lt_irrefl 0)
    · rfl
  have hsize : us.toArray.size = xs.length := List.size_toArray.trans hle
  have small : k.toNat * xs.length ≤ 1000000 := Nat.mul_le_mul (show k.toNat ≤ 1000 by omega) hz
  have prodI : ((us.toArray.size : Nat) : Int) * k ≤ 1000000 := by
    have e : ((k.toNat : Nat) : Int) = k := Int.toNat_of_nonneg (by omega)
    rw [hsize, Int.mul_comm, ← e, ← Int.natCast_mul]
    omega
  have flat : (List.replicate k.toNat us).flatten.length ≤ sizeLine := by
    rw [PyProof.Rows.lm_len_rep_flat, hle, sizeLine_eq]; omega
  have out_of : (decide (k < -(2 ^ 63)) || decide (k ≥ 2 ^ 63)) = false := by
    rw [Bool.or_eq_false_iff, decide_eq_false_iff_not, decide_eq_false_iff_not]; omega
  have not_one : (us.toArray.isEmpty || k == 1) = false := by
    rw [hemp, Bool.false_or, beq_eq_false_iff_ne]; omega
  have not_nil : (decide (k ≤ 0) || us.toArray.isEmpty) = false := by
    rw [hemp, Bool.or_false, decide_eq_false_iff_not]; omega
  have fits : Builtin.Tuple.tupleTooMany (((us.toArray.size : Nat) : Int) * k) = false := by
    unfold Builtin.Tuple.tupleTooMany
    rw [sizeLine_eq, decide_eq_false_iff_not]; omega
  refine wpAny_binaryOp_repeat_ref (T := "tuple") (U := "int") (by decide) ⟨_, ho, rfl⟩ (fun s' => typeIs_int s' k t) noFill_tuple_mul F.fills_int_mul F.slot_int_rmul repeat_tuple F.slot_int_index.lookup (call_meets F.slot_int_rmul (typeIs_int s k t) F.entry_int_rmul (F.args_int_rmul_2 _ _) (int_rmul_tuple k t l us.toArray n dd sl) ⟨ho, rfl, ⟨_, ho, rfl⟩, ?_⟩)
  refine call_meets F.slot_tuple_mul ⟨_, ho, rfl⟩ F.entry_tuple_mul (F.args_tuple_mul_2 _ _) (tuple_mulW l us.toArray n dd sl k t out_of not_one not_nil (by omega) fits (by rw [size_rep, List.size_toArray]; exact flat)) ⟨ho, ?_⟩
  rw [size_rep]
  exact ep_kn I (r.rep k.toNat) (by rw [PyProof.Rows.lm_len_rep_flat, sizeLine_eq]; omega) q
end
end Pk

end
section
set_option Elab.async false
set_option linter.all false
set_option maxRecDepth 100000
set_option maxHeartbeats 1000000
namespace Pk
open PySem PySem.Spec PyProof.Rows L2
/-! ### a zip over iterators of any kind whose tuple is still out -/
section
variable {prog : Program} {w : World} {A : Around} {E : Value → Shared → Prop} {s : Shared} {z TI TO i1 i2 T : Addr} {f : Bool} {oT : Obj} {fp1 fp2 : List Addr} {n1 n2 i : Nat} {P1 P2 : Nat → Value → Prop} {St1 St2 : Nat → Heap → Prop}
theorem zipD2_next_item_held {Q : Value → Shared → Prop} (S : ZipSep2 z TI TO i1 i2 fp1 fp2) (D1 : Draws prog w A i1 fp1 n1 P1 St1) (D2 : Draws prog w A i2 fp2 n2 P2 St2)
    (hz : IsZipHeld s.heap z TI TO T f) (hT : s.heap.get? T = some oT) (hTI : IsPair s.heap TI (.ref i1) (.ref i2)) (st1 : St1 i s.heap) (st2 : St2 i s.heap) (hlt1 : i < n1) (hlt2 : i < n2)
    (hQ : ∀ x1 x2 h' tk, P1 i x1 → P2 i x2 → IsZipHeld h' z TI TO T true → St1 (i + 1) h' → St2 (i + 1) h' → IsPair h' s.heap.objs.size x1 x2 → h'.objs.size = s.heap.objs.size + 1 →
      (∀ c o, c ≠ z → c ≠ i1 → c ≠ i2 → s.heap.get? c = some o → h'.get? c = some o) → Q (.ref s.heap.objs.size) { s with heap := h', toks := tk }) :
    wpAny (model prog w) A (Builtin.«zip.__next__» ⟨[.ref z], []⟩) (fun fin s' => ∃ v, fin = .done (.ret v) ∧ Q v s') E s := by
  obtain ⟨hp, g, d, tk0, os⟩ := s
  show wpAny _ _ (field (.ref z) 2 >>= _) _ _ _
  refine wpAny_bind (wpAny_field hz rfl (x := .bool false) rfl ?_)
  show wpAny _ _ (field (.ref z) 3 >>= _) _ _ _
  refine wpAny_bind (wpAny_field hz rfl (x := .ref TI) rfl ?_)
  refine wpAny_bind (wpAny_seqItems hTI rfl ?_)
  show wpAny _ _ (Builtin.SmallTypes.ownedTupleIsFree (.ref z) >>= _) _ _ _
  refine wpAny_bind (wpAny_tupleHeld_zip hz hT fun h₁ hz₁ hs₁ => ?_)
  replace hs₁ : Heap.SameBut z hp h₁ := hs₁
  simp only [Bool.false_eq_true, if_false]
  refine wpAny_bind ?_
  rw [← Array.forIn_toList]
  simp only [List.forIn_cons, List.forIn_nil]
  refine wpAny_bind (wpAny_bind (wpAny_holding ?_))
  show wpAny _ _ (Builtin.SmallTypes.nextOf (.ref i1) >>= _) _ _ ⟨h₁, g, d, tk0, os⟩
  refine wpAny_bind (D1.item i _ _ _ hlt1 (D1.over st1 hs₁ S.zf1) fun x1 p1 tk1 hx1 sn1 hp1 => wpAny_pure ?_)
  replace hp1 : Heap.SameBut i1 h₁ p1 := hp1
  refine wpAny_pure ?_
  refine wpAny_bind (wpAny_bind (wpAny_holding ?_))
  show wpAny _ _ (Builtin.SmallTypes.nextOf (.ref i2) >>= _) _ _ ⟨p1, g, d, tk1, os⟩
  refine wpAny_bind (D2.item i _ _ _ hlt2 (D2.over (D2.over st2 hs₁ S.zf2) hp1 S.sep1_2) fun x2 p2 tk2 hx2 sn2 hp2 => wpAny_pure ?_)
  replace hp2 : Heap.SameBut i2 p1 p2 := hp2
  refine wpAny_pure (wpAny_pure ?_)
  show wpAny _ _ (newTuple [x1, x2] >>= _) _ _ ⟨p2, g, d, tk2, os⟩
  refine wpAny_bind (wpAny_newTuple ?_)
  have hsz : p2.objs.size = hp.objs.size := by rw [hp2.1, hp1.1, hs₁.1]
  have hz₃ : IsZipHeld p2 z TI TO T true := hp2.extBut _ _ S.zi2 (hp1.extBut _ _ S.zi1 hz₁)
  have hk : ∀ c o, c ≠ z → c ≠ i1 → c ≠ i2 → hp.get? c = some o → p2.get? c = some o := fun c o c1 c2 c3 e => hp2.extBut _ _ c3 (hp1.extBut _ _ c2 (hs₁.extBut _ _ c1 e))
  have g1 : St1 (i + 1) p2 := D1.over sn1 hp2 S.sep2_1
  refine wpAny_pure ⟨_, rfl, ?_⟩
  show Q (.ref p2.objs.size) _
  have hpp : IsPair (p2.push { cls := .type "tuple", data := .seq #[x1, x2] }) p2.objs.size x1 x2 := Heap.get?_push_size _ rfl
  have hz4 : (p2.push { cls := .type "tuple", data := .seq #[x1, x2] }).objs.size = p2.objs.size + 1 := Heap.size_push ..
  rw [hsz] at hpp hz4 ⊢
  exact hQ x1 x2 _ tk2 hx1 hx2 (Heap.get?_push_of_some _ hz₃) (D1.frame _ _ _ g1 fun b _ o e => Heap.get?_push_of_some _ e) (D2.frame _ _ _ sn2 fun b _ o e => Heap.get?_push_of_some _ e) hpp hz4 fun c o c1 c2 c3 e => Heap.get?_push_of_some _ (hk c o c1 c2 c3 e)
theorem zipD2_next_end_held {Q : Fin → Shared → Prop} (S : ZipSep2 z TI TO i1 i2 fp1 fp2) (D1 : Draws prog w A i1 fp1 n1 P1 St1) (D2 : Draws prog w A i2 fp2 n2 P2 St2)
    (hz : IsZipHeld s.heap z TI TO T f) (hT : s.heap.get? T = some oT) (hTI : IsPair s.heap TI (.ref i1) (.ref i2)) (st1 : St1 i s.heap) (st2 : St2 i s.heap) (hle1 : i ≤ n1) (hle2 : i ≤ n2) (hend : i = n1 ∨ i = n2)
    (hE : ∀ h' tk e, (∀ c o, c ≠ z → c ≠ i1 → c ≠ i2 → s.heap.get? c = some o → h'.get? c = some o) → (∃ o, h'.get? e = some o ∧ o.cls = .type "StopIteration") → E (.ref e) { s with heap := h', toks := tk }) :
    wpAny (model prog w) A (Builtin.«zip.__next__» ⟨[.ref z], []⟩) Q E s := by
  obtain ⟨hp, g, d, tk0, os⟩ := s
  show wpAny _ _ (field (.ref z) 2 >>= _) _ _ _
  refine wpAny_bind (wpAny_field hz rfl (x := .bool false) rfl ?_)
  show wpAny _ _ (field (.ref z) 3 >>= _) _ _ _
  refine wpAny_bind (wpAny_field hz rfl (x := .ref TI) rfl ?_)
  refine wpAny_bind (wpAny_seqItems hTI rfl ?_)
  show wpAny _ _ (Builtin.SmallTypes.ownedTupleIsFree (.ref z) >>= _) _ _ _
  refine wpAny_bind (wpAny_tupleHeld_zip hz hT fun h₁ hz₁ hs₁ => ?_)
  replace hs₁ : Heap.SameBut z hp h₁ := hs₁
  simp only [Bool.false_eq_true, if_false]
  refine wpAny_bind ?_
  rw [← Array.forIn_toList]
  simp only [List.forIn_cons, List.forIn_nil]
  refine wpAny_bind (wpAny_bind (wpAny_holding ?_))
  show wpAny _ _ (Builtin.SmallTypes.nextOf (.ref i1) >>= _) _ _ ⟨h₁, g, d, tk0, os⟩
  by_cases hlt1 : i < n1
  · refine wpAny_bind (D1.item i _ _ _ hlt1 (D1.over st1 hs₁ S.zf1) fun x1 p1 tk1 hx1 sn1 hp1 => wpAny_pure ?_)
    replace hp1 : Heap.SameBut i1 h₁ p1 := hp1
    refine wpAny_pure ?_
    have hi2 : i = n2 := by omega
    refine wpAny_bind (wpAny_bind (wpAny_holding ?_))
    show wpAny _ _ (Builtin.SmallTypes.nextOf (.ref i2) >>= _) _ _ ⟨p1, g, d, tk1, os⟩
    refine wpAny_bind (D2.done ⟨p1, g, d, tk1, os⟩ _ _ (by rw [← hi2]; exact (D2.over (D2.over st2 hs₁ S.zf2) hp1 S.sep1_2)) fun q e hq he => ?_)
    replace hq : Heap.ExtBut i2 p1 q := hq
    exact hE q tk1 e (fun c o cz c1 c2 x => hq _ _ c2 (hp1.extBut _ _ c1 (hs₁.extBut _ _ cz x))) he
  · have hi1 : i = n1 := by omega
    refine wpAny_bind (D1.done ⟨h₁, g, d, tk0, os⟩ _ _ (by rw [← hi1]; exact (D1.over st1 hs₁ S.zf1)) fun q e hq he => ?_)
    replace hq : Heap.ExtBut i1 h₁ q := hq
    exact hE q tk0 e (fun c o cz c1 c2 x => hq _ _ c1 (hs₁.extBut _ _ cz x)) he
theorem pyNext_zipD2_item_held {Q : Option Value → Shared → Prop} (S : ZipSep2 z TI TO i1 i2 fp1 fp2) (D1 : Draws prog w A.in1 i1 fp1 n1 P1 St1) (D2 : Draws prog w A.in1 i2 fp2 n2 P2 St2)
    (hz : IsZipHeld s.heap z TI TO T f) (hT : s.heap.get? T = some oT) (hTI : IsPair s.heap TI (.ref i1) (.ref i2)) (st1 : St1 i s.heap) (st2 : St2 i s.heap) (hlt1 : i < n1) (hlt2 : i < n2)
    (hQ : ∀ x1 x2 h' tk, P1 i x1 → P2 i x2 → IsZipHeld h' z TI TO T true → St1 (i + 1) h' → St2 (i + 1) h' → IsPair h' s.heap.objs.size x1 x2 → h'.objs.size = s.heap.objs.size + 1 →
      (∀ c o, c ≠ z → c ≠ i1 → c ≠ i2 → s.heap.get? c = some o → h'.get? c = some o) → Q (some (.ref s.heap.objs.size)) { s with heap := h', toks := tk }) :
    wpAny (model prog w) A (pyNext (.ref z)) Q E s := by
  have hTy : s.TypeIs (.ref z) "zip" := ⟨_, hz, rfl⟩
  unfold pyNext
  exact wpAny_bind (wpAny_attempt (wpAny_callSpecial?_slot (name := Str.ofString "__next__") hTy F.slot_zip_next
    (wpAny_call_entry F.slot_zip_next hTy F.entry_zip_next
      (zipD2_next_item_held S D1 D2 hz hT hTI st1 st2 hlt1 hlt2 fun x1 x2 h' tk y1 y2 b1 d1 d2 b5 b6 b7 => wpAny_pure (hQ x1 x2 h' tk y1 y2 b1 d1 d2 b5 b6 b7)) (F.args_zip_next_1 _))))
theorem pyNext_zipD2_end_held {Q : Option Value → Shared → Prop} (S : ZipSep2 z TI TO i1 i2 fp1 fp2) (D1 : Draws prog w A.in1 i1 fp1 n1 P1 St1) (D2 : Draws prog w A.in1 i2 fp2 n2 P2 St2)
    (hz : IsZipHeld s.heap z TI TO T f) (hT : s.heap.get? T = some oT) (hTI : IsPair s.heap TI (.ref i1) (.ref i2)) (st1 : St1 i s.heap) (st2 : St2 i s.heap) (hle1 : i ≤ n1) (hle2 : i ≤ n2) (hend : i = n1 ∨ i = n2)
    (hQ : ∀ h' tk, (∀ c o, c ≠ z → c ≠ i1 → c ≠ i2 → s.heap.get? c = some o → h'.get? c = some o) → Q none { s with heap := h', toks := tk }) : wpAny (model prog w) A (pyNext (.ref z)) Q E s := by
  have hTy : s.TypeIs (.ref z) "zip" := ⟨_, hz, rfl⟩
  unfold pyNext
  refine wpAny_bind (wpAny_attempt (wpAny_callSpecial?_slot (name := Str.ofString "__next__") hTy F.slot_zip_next
    (wpAny_call_entry F.slot_zip_next hTy F.entry_zip_next (zipD2_next_end_held S D1 D2 hz hT hTI st1 st2 hle1 hle2 hend fun h' tk e hk he => ?_) (F.args_zip_next_1 _))))
  obtain ⟨o, ho, hc⟩ := he
  refine wpAny_bind (wpAny_isInstance (T := "StopIteration") (b := true) ⟨o, ho, hc⟩ isSubtype_stop ?_)
  exact wpAny_pure (hQ _ _ hk)
end
theorem AtG.keep {p : Bool} {h h' : Heap} {a : Addr} {its : Array Value} (q : AtG p h a its) (k : ∀ o, h.get? a = some o → h'.get? a = some o) : AtG p h' a its := by
  cases p with
  | true => exact Heap.IsTuple.at q k
  | false => exact Heap.IsList.at q k
theorem AtG.there {p : Bool} {h : Heap} {a : Addr} {its : Array Value} (q : AtG p h a its) : ∃ o, h.get? a = some o := by
  cases p with
  | true => obtain ⟨o, e, _⟩ := q; exact ⟨o, e⟩
  | false => obtain ⟨o, e, _⟩ := q; exact ⟨o, e⟩
theorem pairArg {prog : Program} {w : World} (p q : Bool) (z TI TO i1 i2 l1 l2 : Addr) (D : Sep z TI TO i1 i2 l1 l2) (xs ys : Array Value) :
    PairArg prog w "zip" z [z, TI, TO, i1, i2, l1, l2] [z, TO, i1, i2] (min xs.size ys.size) (fun i k v => xs[i]? = some k ∧ ys[i]? = some v)
      (fun h => IsZip h z TI TO .none ∧ IsPair h TI (.ref i1) (.ref i2) ∧ (∃ a b, IsPair h TO a b) ∧ ItG p h i1 l1 0 ∧ ItG q h i2 l2 0 ∧ AtG p h l1 xs ∧ AtG q h l2 ys) where
  type := fun s ok => ⟨_, ok.1, rfl⟩
  notDict := by decide
  keep := fun h h' ok hk => by
    obtain ⟨hz, hTI, ⟨a, b, hTO⟩, h1, h2, hl1, hl2⟩ := ok
    exact ⟨hk _ _ hz, hk _ _ hTI, ⟨a, b, hk _ _ hTO⟩, h1.keep fun o e => hk _ o e, h2.keep fun o e => hk _ o e, hl1.keep fun o e => hk _ o e, hl2.keep fun o e => hk _ o e⟩
  there := fun h ok b hb => by
    obtain ⟨hz, hTI, ⟨a, c, hTO⟩, h1, h2, hl1, hl2⟩ := ok
    obtain ⟨o1, _, h1, _⟩ := h1.there
    obtain ⟨o2, _, h2, _⟩ := h2.there
    obtain ⟨o3, hl1⟩ := hl1.there
    obtain ⟨o4, hl2⟩ := hl2.there
    simp only [List.mem_cons, List.not_mem_nil, or_false] at hb
    rcases hb with rfl | rfl | rfl | rfl | rfl | rfl | rfl
    all_goals first | exact ⟨_, hz⟩ | exact ⟨_, hTI⟩ | exact ⟨_, hTO⟩ | exact ⟨_, h1⟩ | exact ⟨_, h2⟩ | exact ⟨_, hl1⟩ | exact ⟨_, hl2⟩
  sub := fun b hb => by simp at hb ⊢; rcases hb with rfl | rfl | rfl | rfl <;> simp
  noKeys := fun A s Q E hA ok h => getAttrOr_miss_zip ok.1 rfl rfl rfl zip_no_keys (by decide +kernel) hA h
  iter := fun A s d Q E hA ok hd hdf h => by
    obtain ⟨hz, hTI, ⟨a, b, hTO⟩, h1, h2, hl1, hl2⟩ := ok
    simp only [List.mem_cons, List.not_mem_nil, or_false, not_or] at hdf
    obtain ⟨dz, dTI, dTO, di1, di2, dl1, dl2⟩ := hdf
    have hh : A.in1.handled = none := hA
    have D1 := drawsG (prog := prog) (w := w) (A := A.in1) hh p i1 l1 D.n1 xs
    have D2 := drawsG (prog := prog) (w := w) (A := A.in1) hh q i2 l2 D.n2 ys
    refine wpAny_pyIter_zip hz (h z [z, TO, i1, i2] (fun i h => IsPair h TI (.ref i1) (.ref i2) ∧ (ItG p h i1 l1 i ∧ AtG p h l1 xs) ∧ (ItG q h i2 l2 i ∧ AtG q h l2 ys) ∧
      ((IsZip h z TI TO .none ∧ ∃ a b, IsPair h TO a b) ∨ ∃ T f oT, IsZipHeld h z TI TO T f ∧ h.get? T = some oT ∧ T ≠ z ∧ T ≠ i1 ∧ T ≠ i2 ∧ T ≠ d)) s.heap s.toks ?_
      ⟨hTI, ⟨h1, hl1⟩, ⟨h2, hl2⟩, .inl ⟨hz, a, b, hTO⟩⟩ (fun _ _ e => e) fun b hb => .inl hb)
    exact {
      off := fun hm => by
        simp only [List.mem_cons, List.not_mem_nil, or_false] at hm
        rcases hm with e | e | e | e
        · exact dz e
        · exact dTO e
        · exact di1 e
        · exact di2 e
      frame := fun i h₁ h₂ st hk => by
        obtain ⟨hTI, ⟨h1, hl1⟩, ⟨h2, hl2⟩, hz⟩ := st
        refine ⟨hk _ _ (Ne.symm dTI) hTI, ⟨h1.keep fun o e => hk _ o (Ne.symm di1) e, hl1.keep fun o e => hk _ o (Ne.symm dl1) e⟩, ⟨h2.keep fun o e => hk _ o (Ne.symm di2) e, hl2.keep fun o e => hk _ o (Ne.symm dl2) e⟩, ?_⟩
        rcases hz with ⟨hz, a, b, hTO⟩ | ⟨T, f, oT, hz, hT, r1, r2, r3, r4⟩
        · exact .inl ⟨hk _ _ (Ne.symm dz) hz, a, b, hk _ _ (Ne.symm dTO) hTO⟩
        · exact .inr ⟨T, f, oT, hk _ _ (Ne.symm dz) hz, hk _ _ r4 hT, r1, r2, r3, r4⟩
      item := fun i s₁ Q₁ E₁ hi st hds hQ => by
        obtain ⟨hTI, h1, h2, hz⟩ := st
        have hix : i < xs.size := Nat.lt_of_lt_of_le hi (Nat.min_le_left ..)
        have hiy : i < ys.size := Nat.lt_of_lt_of_le hi (Nat.min_le_right ..)
        have lt : ∀ {c o}, s₁.heap.get? c = some o → s₁.heap.objs.size ≠ c := fun e => Nat.ne_of_gt (Heap.lt_size e)
        have n1 : s₁.heap.objs.size ≠ i1 := let ⟨_, _, e, _⟩ := h1.1.there; lt e
        have n2 : s₁.heap.objs.size ≠ i2 := let ⟨_, _, e, _⟩ := h2.1.there; lt e
        rcases hz with ⟨hz, a, b, hTO⟩ | ⟨T, f, oT, hz, hT, r1, r2, r3, r4⟩
        · refine wpAny_pyNext_zipD2_item D.s D1 D2 hz hTI hTO h1 h2 hix hiy fun x1 x2 h' tk e1 e2 a1 a2 a3 a4 a5 a6 hk => ?_
          exact hQ s₁.heap.objs.size _ _ h' tk ⟨e1, e2⟩ (.inl ⟨_, a5, rfl, _, rfl⟩)
            ⟨hk _ _ D.s.TIz D.s.TITO D.s.TIi1 D.s.TIi2 hTI, a3, a4,
              .inr ⟨s₁.heap.objs.size, false, _, a1, a5, lt hz, n1, n2, Nat.ne_of_gt hds⟩⟩
            fun c o hc e => hk c o (fun x => hc (by simp [x])) (fun x => hc (by simp [x])) (fun x => hc (by simp [x])) (fun x => hc (by simp [x])) e
        · refine pyNext_zipD2_item_held D.s D1 D2 hz hT hTI h1 h2 hix hiy fun x1 x2 h' tk e1 e2 a1 a3 a4 a5 a6 hk => ?_
          exact hQ s₁.heap.objs.size _ _ h' tk ⟨e1, e2⟩ (.inl ⟨_, a5, rfl, _, rfl⟩)
            ⟨hk _ _ D.s.TIz D.s.TIi1 D.s.TIi2 hTI, a3, a4,
              .inr ⟨T, true, oT, a1, hk _ _ r1 r2 r3 hT, r1, r2, r3, r4⟩⟩
            fun c o hc e => hk c o (fun x => hc (by simp [x])) (fun x => hc (by simp [x])) (fun x => hc (by simp [x])) e
      done := fun s₁ Q₁ E₁ st hQ => by
        obtain ⟨hTI, h1, h2, hz⟩ := st
        rcases hz with ⟨hz, a, b, hTO⟩ | ⟨T, f, oT, hz, hT, r1, r2, r3, r4⟩
        · exact wpAny_pyNext_zipD2_end D.s D1 D2 hz hTI hTO h1 h2 (by omega) (by omega) (by omega) fun h' tk hk => hQ h' tk fun c o hc e => hk c o (fun x => hc (by simp [x])) (fun x => hc (by simp [x])) (fun x => hc (by simp [x])) (fun x => hc (by simp [x])) e
        · exact pyNext_zipD2_end_held D.s D1 D2 hz hT hTI h1 h2 (by omega) (by omega) (by omega) fun h' tk hk => hQ h' tk fun c o hc e => hk c o (fun x => hc (by simp [x])) (fun x => hc (by simp [x])) (fun x => hc (by simp [x])) e }
/-! ### dict(zip(a, b)): lists and tuples in any mix, the keys each once -/
theorem kv_zip : ∀ {ks : List Key} {xs : List V} {us : List Value}, Vals xs us → KV (ks.zip xs) (ks.zip us)
  | [], _, _, _ => by rw [List.zip_nil_left, List.zip_nil_left]; exact .nil
  | _ :: _, _, _, .nil => by rw [List.zip_nil_right, List.zip_nil_right]; exact .nil
  | k :: ks, _, _, .cons r t => .cons ⟨rfl, r⟩ (kv_zip t)
theorem nodup_zip {α β : Type} : ∀ {ks : List α} (xs : List β), ks.Nodup → ((ks.zip xs).map (·.1)).Nodup
  | [], _, _ => by simp
  | _ :: _, [], _ => by simp
  | k :: ks, x :: xs, h => by
    obtain ⟨h1, h2⟩ := List.nodup_cons.mp h
    rw [List.zip_cons_cons, List.map_cons]
    refine List.nodup_cons.mpr ⟨fun z => h1 ?_, nodup_zip xs h2⟩
    obtain ⟨⟨a, b⟩, hp, rfl⟩ := List.mem_map.mp z
    exact (List.of_mem_zip hp).1
def tDZip (K : PySem.W.Frag) (ta : TA) : TE := fun σ H Q => ta σ H fun vs H1 => ∃ (p q : Bool) (a b : Addr) (ks : List Key) (xs : List V), vs = [.ref a, .ref b] ∧ SqG K p H1 a (ks.map kV) ∧ SqG K q H1 b xs ∧ ks.Nodup ∧ ∀ c, H1 c = none → Q (.ref c) (upd H1 c (.dK (ks.zip xs)))
theorem pe_dzip {X : Cx} {e e2 : Expr} {ta : TA} {p p2 pos pos2 : Pos} (hc : X.calm = true) (hg : Gl X "dict") (hm : X.mg "dict" = none) (hg2 : Gl X "zip") (hm2 : X.mg "zip" = none) (ha : PA X [e, e2] ta)
    (hs : starEach [e, e2] X.env = (false, eval e X.env) :: starEach [e2] X.env) (hpl : (backTo pos2 (starEach [e2] X.env)).any (·.1) = false) :
    PE X (.Call (.Name "dict" p) [.Call (.Name "zip" p2) [e, e2] [] pos2] [] pos) (tDZip X.K ta) := by
  constructor
  intro pins s σ H Q I h
  refine Call_ (ld_blt I hg hm boot_dict ?_)
  refine PyProof.Rows.callWith_type1 (PyProof.Rows.args_cons ?_ rfl) rfl rfl
  refine Call_ (ld_blt I hg2 hm2 PyProof.Rows.boot_zip (PyProof.Rows.callWith_type1 (thn (ha.run pos2 pins s σ H _ I h) ?_) hs hpl))
  rintro us s1 ⟨vs, H1, I1, r1, f, g, a, b, ks, xs, rfl, hqa, hqb, nd, q⟩
  cases r1 with
  | cons ru rr =>
    cases rr with
    | cons rv rr =>
      cases rr
      cases ru
      cases rv
      have hln : ks.length ≤ sizeLine := by
        cases f with
        | true => obtain ⟨_, _, _, l⟩ := I1.tuple hqa; rw [List.length_map] at l; exact l
        | false => obtain ⟨_, _, _, l⟩ := I1.list hqa; rw [List.length_map] at l; exact l
      obtain ⟨ka, ra, pa, alt⟩ := inv_sq I1 hqa
      obtain ⟨xb, rb, pb, blt⟩ := inv_sq I1 hqb
      refine zip_begins2 (s := s1) (beginsG f a ka.toArray) (beginsG g b xb.toArray) pa pb ?_
      intro h' hz hTI hTO h1 h2 hsz hk
      refine PyProof.Rows.args_nil ?_
      have ln : ks.length = ka.length := by rw [← ra.length, List.length_map]
      have at_ : ∀ (i : Nat) (key v : Value), (ka.toArray[i]? = some key ∧ xb.toArray[i]? = some v) → ∃ k, (ks.zip xb)[i]? = some (k, v) ∧ (mixKind X.prog X.w).is k key = true := by
        rintro i key v ⟨z1, z2⟩
        replace z1 : ka[i]? = some key := by simpa using z1
        replace z2 : xb[i]? = some v := by simpa using z2
        have hi : i < ks.length := by rw [ln]; exact (List.getElem?_eq_some_iff.mp z1).1
        obtain ⟨u, hu, ru⟩ := ra.get (i := i) (x := kV ks[i]) (by simp [hi])
        rw [hu] at z1; cases z1
        exact ⟨ks[i], by rw [List.getElem?_zip_eq_some]; exact ⟨List.getElem?_eq_getElem hi, z2⟩, kV_is ru⟩
      have hl : (ks.zip xb).length = min ka.toArray.size xb.toArray.size := by rw [List.length_zip, List.size_toArray, List.size_toArray, ln]
      refine PySem.call_dict_pairs (knd := mixKind X.prog X.w) (kvs := ks.zip xb) (pairArg f g _ _ _ _ _ a b (sep_new alt blt) ka.toArray xb.toArray) (I1.ok.hd hc)
        ⟨hz, hTI, ⟨_, _, hTO⟩, ItG.new h1, ItG.new h2, pa.keep fun o z => hk _ o z, pb.keep fun o z => hk _ o z⟩ ⟨hl, at_⟩ (by rw [List.size_toArray, List.size_toArray, ← ln]; omega) ?_
      intro h3 tk hd hk2
      rw [merged_nil_of_nodup _ (nodup_zip xb nd)] at hd
      have up : ∀ c o, s1.heap.get? c = some o → h3.get? c = some o := fun c o z => by
        have lt := Heap.lt_size z
        refine hk2 c o (fun hm => ?_) (hk c o z)
        simp only [List.mem_cons, List.not_mem_nil, or_false] at hm
        rcases hm with e | e | e | e
        · rw [e] at lt; exact absurd lt (Nat.not_lt.mpr (Nat.le_add_right _ _))
        · rw [e] at lt; exact absurd lt (Nat.not_lt.mpr (Nat.le_add_right _ _))
        · rw [e] at lt; exact absurd lt (Nat.lt_irrefl _)
        · rw [e] at lt; exact absurd lt (Nat.not_lt.mpr (Nat.le_add_right _ _))
      have hsz' : h'.objs.size = s1.heap.objs.size + 5 := hsz
      have hle : s1.heap.objs.size ≤ h'.objs.size := by rw [hsz']; exact Nat.le_add_right _ _
      have hzl : (ks.zip xs).length ≤ sizeLine := by rw [List.length_zip]; omega
      have hsm : (h'.objs.size == sysModules) = false := beq_eq_false_iff_ne.mpr (Nat.ne_of_gt (Nat.lt_of_lt_of_le I1.big hle))
      exact ⟨.ref h'.objs.size, upd H1 h'.objs.size (.dK (ks.zip xs)), I1.laid (t' := tk) up hle ⟨hzl, hsm, ks.zip xb, kv_zip rb, hd⟩, rfl, q _ (I1.hok.fresh hle)⟩
end Pk

end
section
set_option Elab.async false
set_option linter.all false
set_option maxRecDepth 100000
set_option maxHeartbeats 1000000
namespace Pk
open PySem PySem.Spec PyProof.Rows L2
open PySem.W (HoldAll Holds maxOf minOf max_tuple_datum min_tuple_datum)
/-! ### max, min, sum of a tuple of ints -/
theorem hold_ints {h : Heap} : ∀ {ns : List Int} {its : List Value}, Vals (ns.map V.int) its → HoldAll h its ns
  | [], _, .nil => ⟨[], .nil⟩
  | n :: ns, _, .cons r t => by
    obtain ⟨u, rfl⟩ := r
    obtain ⟨as, rs⟩ := hold_ints (h := h) t
    exact ⟨_, .cons (.int n u) rs⟩
section
variable {X : Cx}
def rMaxT (K : PySem.W.Frag) : List V → Hp → VK → Prop := fun vs H Q => ∃ (a : Addr) (n : Int) (r : List Int), vs = [V.ref a] ∧ SqT K H a ((n :: r).map V.int) ∧ Q (.int (maxOf n r)) H
def rMinT (K : PySem.W.Frag) : List V → Hp → VK → Prop := fun vs H Q => ∃ (a : Addr) (n : Int) (r : List Int), vs = [V.ref a] ∧ SqT K H a ((n :: r).map V.int) ∧ Q (.int (minOf n r)) H
def rSumT (K : PySem.W.Frag) : List V → Hp → VK → Prop := fun vs H Q => ∃ (a : Addr) (ns : List Int), vs = [V.ref a] ∧ SqT K H a (ns.map V.int) ∧ Q (.int ns.sum) H
theorem holds_int {h : Heap} {v : Value} {i : Int} (r : Holds h v i) : ∃ t, v = .int i t := by
  obtain ⟨as, r⟩ := r
  have r : Reads h v (.int i) as := r
  cases r
  exact ⟨_, rfl⟩
theorem cr_maxT (hc : X.calm = true) (hu : X.A.units + 1 < cLine) : CallR X (.builtin "max") (rMaxT X.K) := by
  intro pins s σ H vs us Q I r h
  obtain ⟨a, n, ms, rfl, hs, q⟩ := h
  obtain ⟨its, rv, hl, _⟩ := I.tuple hs
  rw [Vals.ref1 r]
  refine max_tuple_datum (I.ok.hd hc) hl (by simpa using hold_ints (h := s.heap) (ns := n :: ms) rv) (by show X.A.units + 1 + 0 < cLine; omega) fun i v h' tk _ hv hk => ?_
  obtain ⟨t, rfl⟩ := holds_int hv
  exact ⟨.int _, H, I.kept hk, ⟨_, rfl⟩, q⟩
theorem cr_minT (hc : X.calm = true) (hu : X.A.units + 1 < cLine) : CallR X (.builtin "min") (rMinT X.K) := by
  intro pins s σ H vs us Q I r h
  obtain ⟨a, n, ms, rfl, hs, q⟩ := h
  obtain ⟨its, rv, hl, _⟩ := I.tuple hs
  rw [Vals.ref1 r]
  refine min_tuple_datum (I.ok.hd hc) hl (by simpa using hold_ints (h := s.heap) (ns := n :: ms) rv) (by show X.A.units + 1 + 0 < cLine; omega) fun i v h' tk _ hv hk => ?_
  obtain ⟨t, rfl⟩ := holds_int hv
  exact ⟨.int _, H, I.kept hk, ⟨_, rfl⟩, q⟩
theorem cr_sumT (hc : X.calm = true) : CallR X (.builtin "sum") (rSumT X.K) := by
  intro pins s σ H vs us Q I r h
  obtain ⟨a, ns, rfl, hs, q⟩ := h
  obtain ⟨its, rv, hl, _⟩ := I.tuple hs
  rw [Vals.ref1 r]
  obtain ⟨xs, e⟩ := rv.ints.allInts.items
  have hn : numsOf (intItems xs).toList = ns := by rw [← e]; exact rv.ints.numsOf
  rw [nums_intItems] at hn
  have hl : s.heap.IsTuple a its.toArray := hl
  rw [e] at hl
  refine PySem.W.ktm_sumG (I.ok.hd hc) hl fun h' tk t' hk => ?_
  rw [preSum_eq, List.take_of_length_le (by simp), hn]
  exact ⟨.int _, H, I.kept hk, ⟨_, rfl⟩, q⟩
end
end Pk

end
section
set_option Elab.async false
set_option linter.all false
/-! Pi: a small interpreter over trees. -/
namespace Pi
open PySem
abbrev D := PyData
/-- the longest list -/
abbrev SL : Nat := 16777216
/-- what an expression gives: a tree, a tree at a new place, a thing of the store -/
inductive Vl where | d (x : D) | fr (x : D) | rf (n : Nat)
/-- what a name holds -/
inductive Slot where | no | sh (x : D) | ow (x : D) | lk (x : D) | rf (n : Nat)
abbrev Sto := List (List D)
abbrev Ev := List Slot
inductive Bop where | add | sub | mul | fdiv | mod | pow deriving DecidableEq
inductive Cop where | eq | ne | lt | le | gt | ge | isin | notin deriving DecidableEq
inductive F1 where | len | tuple | list | int | abs | sum | all | any | max | min | sorted | sset | lset | str deriving DecidableEq
/-- a text's method of one argument -/
inductive M1 where | join | split | count deriving DecidableEq
inductive F2 where | max | min deriving DecidableEq
inductive Ty where | list | tuple | bool | int | str deriving DecidableEq
mutual
inductive Tg where | n (i : Nat) | t (ts : Tgs)
inductive Tgs where | nil | cons (t : Tg) (ts : Tgs)
end
mutual
inductive E where
  | non | bl (b : Bool) | int (i : Int) | str (s : Str)
  | v (i : Nat) | g (i : Nat)
  | tup (es : Es) | lst (es : Es)
  | bin (op : Bop) (a b : E) | neg (a : E) | rep (a b : E)
  | cmp (op : Cop) (a b : E) | chain (o o' : Cop) (a b c : E)
  | isN (a : E) | isnN (a : E)
  | and (a b : E) | or (a b : E) | not (a : E)
  | ite (c a b : E)
  | ix (a i : E) | bx (i : Nat) (k : E) | sl (a : E) (lo hi : Oe) | rev (a : E)
  | call (f : Nat) (es : Es) | callk (f : Nat) (es ks : Es) (pm : List Nat)
  | f1 (f : F1) (a : E) | f2 (f : F2) (a b : E) | m1 (m : M1) (a b : E)
  | isi (a : E) (ts : List Ty)
  | dnew (t : Bool) | dget2 (a k d : E) | idx (a b : E) | dzip (a b : E)
  | trg (a : E) | lrg (a : E) | lrg2 (a b : E)
  | lc (vs : List Nat) (e : E) (t : Tg) (it : It) (c : Oe)
  | lc2 (vs ws : List Nat) (e : E) (t : Tg) (it : It) (c : Oe) (t' : Tg) (it' : It) (c' : Oe)
inductive Es where | nil | cons (e : E) (es : Es)
inductive Oe where | no | yes (e : E)
inductive It where | of (e : E) | rng1 (a : E) | rng2 (a b : E) | rng3 (a b c : E) | enm (a : E) | zip (a b : E)
end
def bnd {α β : Type} (r : Option (α × Sto)) (k : α → Sto → Option (β × Sto)) : Option (β × Sto) := match r with
  | some (a, s) => k a s
  | none => none
@[simp] theorem bnd_some {α β : Type} (a : α) (s : Sto) (k : α → Sto → Option (β × Sto)) : bnd (some (a, s)) k = k a s := rfl
@[simp] theorem bnd_none {α β : Type} (k : α → Sto → Option (β × Sto)) : bnd (none : Option (α × Sto)) k = none := rfl
theorem bnd_eq {α β : Type} {r : Option (α × Sto)} {k : α → Sto → Option (β × Sto)} {x : β × Sto} (h : bnd r k = some x) : ∃ a s, r = some (a, s) ∧ k a s = some x := by
  cases r with
  | none => cases h
  | some p => exact ⟨p.1, p.2, rfl, h⟩
def Vl.toD : Vl → Option D
  | .d x => some x
  | .fr x => some x
  | .rf _ => none
def toD (r : Option (Vl × Sto)) : Option (D × Sto) := bnd r fun w s => w.toD.map fun x => (x, s)
def look (env : Ev) (i : Nat) : Slot := env.getD i .no
/-- a name that is only read may be a list that is still changed -/
def bor (e : E) (r : Option (Vl × Sto)) (env : Ev) (st : Sto) : Option (D × Sto) := match e with
  | .v i => (match look env i with
    | .sh x => some (x, st)
    | .ow x => some (x, st)
    | .lk x => some (x, st)
    | _ => none)
  | _ => toD r
def truD : D → Option Bool
  | .none => some false
  | .bool b => some b
  | .int i => some (i != 0)
  | .str s => if s.length ≤ SL then some (s.length != 0) else none
  | .list xs => some (!xs.isEmpty)
  | .tuple xs => some (!xs.isEmpty)
  | .dict _ => none
def ret {α : Type} (x : Option α) (st : Sto) : Option (α × Sto) := x.map fun a => (a, st)
def tru (r : Option (D × Sto)) : Option (Bool × Sto) := bnd r fun x s => ret (truD x) s
/-! ### operators -/
def addD : D → D → Option Vl
  | .int i, .int j => some (.d (.int (i + j)))
  | .str x, .str y => if x.length + y.length ≤ SL then some (.d (.str (x ++ y))) else none
  | .list xs, .list ys => if xs.length + ys.length ≤ SL then some (.fr (.list (xs ++ ys))) else none
  | .tuple xs, .tuple ys => if xs.length + ys.length ≤ SL then some (.d (.tuple (xs ++ ys))) else none
  | _, _ => none
def repD (xs : List D) (k : Int) : List D := (List.replicate k.toNat xs).flatten
/-- a text times a number -/
def repStr (x : Str) (k : Int) : Str := if k < 1 then Str.empty else if (k == 1 || x.length == 0) = true then x else ⟨(List.replicate k.toNat x.cps).foldl (· ++ ·) #[]⟩
def mulD : D → D → Option Vl
  | .int i, .int j => if decide ((-(2 ^ 64) < i ∧ i < 2 ^ 64) ∨ (-(2 ^ 64) < j ∧ j < 2 ^ 64) ∨ i.natAbs.log2 + j.natAbs.log2 < 1000000) then some (.d (.int (i * j))) else none
  | .tuple xs, .int k => if decide (1 ≤ k ∧ k ≤ 1000 ∧ xs.length ≤ 1000 ∧ 0 < xs.length) then some (.d (.tuple (repD xs k))) else none
  | .str x, .int k => if decide (0 ≤ k ∧ k < 2 ^ 62 ∧ x.length * k.toNat ≤ SL) then some (.d (.str (repStr x k))) else none
  | _, _ => none
def fdivD (i j : Int) : Option Int :=
  if 0 < j then (if j.natAbs.log2 < 9000 then some (i / j) else none) else if j ≠ 0 ∧ j.natAbs < 1073741824 then some (i.fdiv j) else none
def modD (i j : Int) : Option Int := if 0 < j then some (i % j) else if j ≠ 0 then some (i.fmod j) else none
def powD (i j : Int) : Option Int := if decide (0 ≤ j ∧ j ≤ 1000000 ∧ i.natAbs < 2 ^ 64) then some (i ^ j.toNat) else none
def binD : Bop → D → D → Option Vl
  | .add, x, y => addD x y
  | .mul, x, y => mulD x y
  | .sub, .int i, .int j => some (.d (.int (i - j)))
  | .fdiv, .int i, .int j => (fdivD i j).map fun k => .d (.int k)
  | .mod, .int i, .int j => (modD i j).map fun k => .d (.int k)
  | .pow, .int i, .int j => (powD i j).map fun k => .d (.int k)
  | _, _, _ => none
/-! ### dicts: a first entry (.tuple [], .none) says that the keys are tuples -/
def keyD : D → Bool
  | .int _ => true
  | .str _ => true
  | _ => false
def tkeyD : D → Bool
  | .tuple (x :: xs) => keyD x && xs.all keyD
  | _ => false
def keq : D → D → Bool
  | .int i, .int j => i == j
  | .str x, .str y => x == y
  | _, _ => false
def keqs : List D → List D → Bool
  | [], [] => true
  | x :: xs, y :: ys => keq x y && keqs xs ys
  | _, _ => false
/-- the two keys are one -/
def keyEq : D → D → Bool
  | .tuple xs, .tuple ys => keqs xs ys
  | x, y => keq x y
def dlook (k : D) : List (D × D) → Option D
  | [] => none
  | (j, v) :: ds => if keyEq j k then some v else dlook k ds
def dput (k v : D) (ds : List (D × D)) : List (D × D) := if (ds.any fun p => keyEq p.1 k) = true then ds.map (fun p => if keyEq p.1 k then (p.1, v) else p) else ds ++ [(k, v)]
/-- the entries, by what kind the key is -/
def dents (k : D) : List (D × D) → Option (List (D × D))
  | (.tuple [], .none) :: ds => if tkeyD k then some ds else none
  | ds => if keyD k then some ds else none
def dget (ds : List (D × D)) (k : D) : Option (Option D) := (dents k ds).map (dlook k)
/-! ### comparisons -/
/-- no dict within, not too deep -/
def okD (x : D) : Bool := x.plain && decide (x.depth ≤ 60)
def isNone : D → Bool
  | .none => true
  | _ => false
def ltD (x y : D) : Option Bool := if okD x && okD y && PySem.W.alike x y && !isNone x then some (PySem.W.dataLt x y) else none
def leD (x y : D) : Option Bool := if okD x && okD y && PySem.W.alike x y && !isNone x then some (!PySem.W.dataLt y x) else none
def inD (x : D) : D → Option Bool
  | .list ys => if okD x && PyData.plainAll ys then some (ys.any fun y => PyData.eqv y x) else none
  | .tuple ys => if okD x && PyData.plainAll ys then some (ys.any fun y => PyData.eqv y x) else none
  | .str z => (match x with
    | .str w => some (!(Builtin.Str.occurrences z w 0 z.length 1).isEmpty)
    | _ => none)
  | .dict ds => (dget ds x).map Option.isSome
  | _ => none
def gtD (x y : D) : Option Bool := if okD x && okD y && PySem.W.alike x y && !isNone x then some (PySem.W.dataLt y x) else none
def geD (x y : D) : Option Bool := if okD x && okD y && PySem.W.alike x y && !isNone x then some (!PySem.W.dataLt x y) else none
def cmpD : Cop → D → D → Option Bool
  | .eq, x, y => if okD x && okD y then some (PyData.eqv x y) else none
  | .ne, x, y => if okD x && okD y then some (!PyData.eqv x y) else none
  | .lt, x, y => ltD x y
  | .le, x, y => leD x y
  | .gt, x, y => gtD x y
  | .ge, x, y => geD x y
  | .isin, x, y => inD x y
  | .notin, x, y => (inD x y).map (!·)
/-! ### subscripts -/
def at? (xs : List D) (i : Int) : Option D := L2.atI xs i
def ixD : D → D → Option D
  | .list xs, .int i => at? xs i
  | .tuple xs, .int i => at? xs i
  | .str z, .int i => if z.length ≤ SL then (L2.atI z.cps.toList i).map fun c => .str ⟨#[c]⟩ else none
  | .dict ds, k => (dget ds k).bind id
  | _, _ => none
def cutD (xs : List D) (lo hi : Option Int) : List D := (xs.drop (HT.sIx xs.length 0 lo)).take (HT.sIx xs.length xs.length hi - HT.sIx xs.length 0 lo)
def slD (x : D) (lo hi : Option Int) : Option Vl := match x with
  | .list xs => some (.fr (.list (cutD xs lo hi)))
  | .tuple xs => some (.d (.tuple (cutD xs lo hi)))
  | .str z => if z.length ≤ SL then some (.d (.str (L2.cutS z lo hi))) else none
  | _ => none
/-! ### built-ins -/
def intsD : List D → Option (List Int)
  | [] => some []
  | .int i :: r => (intsD r).map (i :: ·)
  | _ :: _ => none
def boolsD : List D → Option (List Bool)
  | [] => some []
  | .bool b :: r => (boolsD r).map (b :: ·)
  | _ :: _ => none
def maxI (m : Int) : List Int → Int
  | [] => m
  | x :: r => maxI (if x > m then x else m) r
def minI (m : Int) : List Int → Int
  | [] => m
  | x :: r => minI (if x < m then x else m) r
/-! ### sorted: alike data, a stable sort -/
def insD (x : D) : List D → List D
  | [] => [x]
  | y :: ys => if PySem.W.dataLt y x then y :: insD x ys else x :: y :: ys
def isortD : List D → List D
  | [] => []
  | x :: xs => insD x (isortD xs)
def tupC : D → Bool
  | .tuple (_ :: _) => true
  | _ => false
def notNT : D → Bool
  | .none => false
  | .tuple _ => false
  | _ => true
def sortOk (xs : List D) : Bool := xs.all okD && xs.all (fun x => xs.all (PySem.W.alike x)) && (xs.all tupC || xs.all notNT) && decide (xs.length ≤ SL)
def sortD (xs : List D) : Option (List D) := if sortOk xs then some (isortD xs) else none
/-! ### sorted(set(..)) of keys -/
def uinsD (x : D) : List D → List D
  | [] => [x]
  | y :: ys => if PySem.W.dataLt y x then y :: uinsD x ys else if PySem.W.dataLt x y then x :: y :: ys else y :: ys
def usortD : List D → List D
  | [] => []
  | x :: xs => uinsD x (usortD xs)
def setOk (xs : List D) : Bool := decide (xs.length < 64) && (xs.all keyD || xs.all tkeyD) && xs.all (fun x => xs.all (PySem.W.alike x))
def setD (xs : List D) : Option (List D) := if setOk xs then some (usortD xs) else none
def items : D → Option (List D)
  | .list xs => some xs
  | .tuple xs => some xs
  | _ => none
def f1D : F1 → D → Option Vl
  | .len, .list xs => some (.d (.int xs.length))
  | .len, .tuple xs => some (.d (.int xs.length))
  | .len, .str z => if z.length ≤ SL then some (.d (.int z.length)) else none
  | .tuple, .list xs => some (.d (.tuple xs))
  | .tuple, .tuple xs => some (.d (.tuple xs))
  | .list, .list xs => some (.fr (.list xs))
  | .list, .tuple xs => some (.fr (.list xs))
  | .int, .int i => some (.d (.int i))
  | .int, .bool b => some (.d (.int (if b then 1 else 0)))
  | .int, .str z => if z.length ≤ 640 then (PySem.intText? z).map fun n => .d (.int n) else none
  | .str, .int i => if i.natAbs.log2 < 1920 then some (.d (.str (Str.ofString (toString i)))) else none
  | .sorted, .list xs => (sortD xs).map fun ys => .fr (.list ys)
  | .sset, .list xs => (setD xs).map fun ys => .fr (.list ys)
  | .sset, .tuple xs => (setD xs).map fun ys => .fr (.list ys)
  | .lset, .list xs => (setD xs).map fun ys => .d (.int ys.length)
  | .lset, .tuple xs => (setD xs).map fun ys => .d (.int ys.length)
  | .abs, .int i => some (.d (.int (if i < 0 then -i else i)))
  | .sum, .list xs => (intsD xs).map fun ns => .d (.int ns.sum)
  | .sum, .tuple xs => (intsD xs).map fun ns => .d (.int ns.sum)
  | .all, .list xs => (boolsD xs).map fun bs => .d (.bool (bs.all id))
  | .any, .list xs => (boolsD xs).map fun bs => .d (.bool (bs.any id))
  | .max, .list xs => (intsD xs).bind fun ns => match ns with | [] => none | n :: r => some (.d (.int (maxI n r)))
  | .max, .tuple xs => (intsD xs).bind fun ns => match ns with | [] => none | n :: r => some (.d (.int (maxI n r)))
  | .min, .list xs => (intsD xs).bind fun ns => match ns with | [] => none | n :: r => some (.d (.int (minI n r)))
  | .min, .tuple xs => (intsD xs).bind fun ns => match ns with | [] => none | n :: r => some (.d (.int (minI n r)))
  | _, _ => none
def f2D : F2 → D → D → Option Vl
  | .max, .int i, .int j => some (.d (.int (if j > i then j else i)))
  | .min, .int i, .int j => some (.d (.int (if j < i then j else i)))
  | _, _, _ => none
def strsD : List D → Option (List Str)
  | [] => some []
  | .str x :: r => (strsD r).map (x :: ·)
  | _ :: _ => none
def m1D : M1 → D → D → Option Vl
  | .join, .str a, y => ((items y).bind strsD).bind fun ys => if (ys.map (·.length)).sum + ys.length * a.length ≤ SL then some (.d (.str (Txt.join a ys))) else none
  | .split, .str a, .str b => if b.length ≠ 0 ∧ a.length + 2 ≤ SL then some (.fr (.list ((Txt.split a b).map .str))) else none
  | .count, .str a, .str b => some (.d (.int (Txt.count a b)))
  | _, _, _ => none
/-- a dict's get, with what it gives otherwise -/
def getD2 (x k z : D) : Option Vl := match x with
  | .dict ds => (dget ds k).map fun o => .d (o.getD z)
  | _ => none
/-- the first place of an equal one: a list's, a tuple's (of texts) -/
def idxD (x y : D) : Option Vl := match x with
  | .list xs => if (PySem.SeqAt.shaped (.list xs) && PySem.SeqAt.shaped y) = true then (xs.findIdx? fun z => PyData.eqv z y).map fun j => .d (.int (j : Nat)) else none
  | .tuple xs => if kB = true then (match y with
    | .str z => (strsD xs).bind fun ys => (ys.findIdx? fun w => w == z).map fun j => .d (.int (j : Nat))
    | _ => none) else none
  | _ => none
/-- keys, each once -/
def onceD : List D → Bool
  | [] => true
  | x :: xs => keyD x && !(xs.any fun y => keyEq y x) && onceD xs
def kvD : List D → List D → List (D × D)
  | x :: xs, y :: ys => (x, y) :: kvD xs ys
  | _, _ => []
/-- dict(zip(x, y)) -/
def dzipD (x y : D) : Option Vl := (items x).bind fun xs => (items y).bind fun ys => if onceD xs = true then some (.fr (.dict (kvD xs ys))) else none
def isTy : D → Ty → Bool
  | .list _, .list => true
  | .tuple _, .tuple => true
  | .bool _, .bool => true
  | .bool _, .int => true
  | .int _, .int => true
  | .str _, .str => true
  | _, _ => false
def noDict : D → Bool
  | .dict _ => false
  | _ => true
def rgD (n : Int) : Option (List D) := if decide (-(2 ^ 62) ≤ n ∧ n < 16777216) then some ((List.range n.toNat).map fun i => .int (i : Nat)) else none
def rg2D (i j : Int) : Option (List D) := if decide (-(2 ^ 61) ≤ i ∧ i < 2 ^ 61 ∧ -(2 ^ 61) ≤ j ∧ j < 2 ^ 61) then some ((List.range (j - i).toNat).map fun k => .int (i + (k : Nat))) else none
/-- range with a step -/
def rgC (i j c : Int) : Option (List D) := if decide (c ≠ 0 ∧ c.natAbs < 1073741824 ∧ Builtin.Range.small i j c = true ∧ 0 ≤ Builtin.Range.rangeSize i j c) then some ((List.range (Builtin.Range.rangeSize i j c).toNat).map fun k => .int (i + (k : Nat) * c)) else none
def rg3D (i j : Int) : Option (List D) := if decide (-(2 ^ 61) ≤ i ∧ i < 2 ^ 61 ∧ -(2 ^ 61) ≤ j ∧ j < 2 ^ 61 ∧ (j - i).toNat ≤ 16777216) then some ((List.range (j - i).toNat).map fun k => .int (i + (k : Nat))) else none
/-! ### targets -/
mutual
def bindT : Tg → D → Ev → Option Ev
  | .n i, x, env => if i < env.length then some (env.set i (.sh x)) else none
  | .t ts, .tuple xs, env => bindTs ts xs env
  | .t ts, .list xs, env => bindTs ts xs env
  | .t _, _, _ => none
def bindTs : Tgs → List D → Ev → Option Ev
  | .nil, [], env => some env
  | .cons t ts, x :: xs, env => (bindT t x env).bind fun env' => bindTs ts xs env'
  | _, _, _ => none
end
def wipeE (env : Ev) : List Nat → Ev
  | [] => env
  | v :: vs => (wipeE env vs).set v .no
/-! ### the turns of a comprehension -/
/-- for each item: bind, test, the element -/
def turns (bd : D → Ev → Option Ev) (tt : Ev → Sto → Option (Bool × Sto)) (el : Ev → Sto → Option (D × Sto)) (env : Ev) : List D → List D → Sto → Option (List D × Sto)
  | [], acc, st => some (acc, st)
  | x :: xs, acc, st => match bd x env with
    | none => none
    | some e1 => bnd (tt e1 st) fun b s1 => if b then bnd (el e1 s1) fun y s2 => if acc.length < SL then turns bd tt el env xs (acc ++ [y]) s2 else none else turns bd tt el env xs acc s1
/-- two clauses -/
def turns2 (bd : D → Ev → Option Ev) (tt : Ev → Sto → Option (Bool × Sto)) (inn : Ev → List D → Sto → Option (List D × Sto)) (env : Ev) : List D → List D → Sto → Option (List D × Sto)
  | [], acc, st => some (acc, st)
  | x :: xs, acc, st => match bd x env with
    | none => none
    | some e1 => bnd (tt e1 st) fun b s1 => if b then bnd (inn e1 acc s1) fun acc' s2 => turns2 bd tt inn env xs acc' s2 else turns2 bd tt inn env xs acc s1
def zipD : List D → List D → List D
  | x :: xs, y :: ys => .tuple [x, y] :: zipD xs ys
  | _, _ => []
def enumD (i : Nat) : List D → List D
  | [] => []
  | x :: xs => .tuple [.int (i : Nat), x] :: enumD (i + 1) xs
/-- the items of what may be walked -/
def walkD : D → Option (List D)
  | .list xs => some xs
  | .tuple xs => some xs
  | .str z => some (z.cps.toList.map fun c => .str ⟨#[c]⟩)
  | _ => none
abbrev Cf := Nat → List Vl → Sto → Option (Vl × Sto)
def pick {α : Type} (xs : List α) : List Nat → Option (List α)
  | [] => some []
  | i :: is => (xs[i]?).bind fun x => (pick xs is).map (x :: ·)
def asInt : D → Option Int
  | .int i => some i
  | _ => none
/-- an argument: a tree or a thing of the store -/
def argV (w : Vl) : Vl := match w with
  | .fr x => .d x
  | w => w
mutual
def ev (gl : Nat → Option D) (cf : Cf) : E → Ev → Sto → Option (Vl × Sto)
  | .non, _, st => some (.d .none, st)
  | .bl b, _, st => some (.d (.bool b), st)
  | .int i, _, st => some (.d (.int i), st)
  | .str s, _, st => some (.d (.str s), st)
  | .v i, env, st => (match look env i with
    | .sh x => some (.d x, st)
    | .rf n => some (.rf n, st)
    | _ => none)
  | .g i, _, st => ret ((gl i).map .d) st
  | .tup es, env, st => bnd (evs gl cf es env st) fun xs s => if xs.length ≤ SL then some (.d (.tuple xs), s) else none
  | .lst es, env, st => bnd (evs gl cf es env st) fun xs s => if xs.length ≤ SL then some (.fr (.list xs), s) else none
  | .bin op a b, env, st => bnd (bor a (ev gl cf a env st) env st) fun x s => bnd (bor b (ev gl cf b env s) env s) fun y s' => ret (binD op x y) s'
  | .neg a, env, st => bnd (bor a (ev gl cf a env st) env st) fun x s => ret ((asInt x).map fun i => .d (.int (-i))) s
  | .rep a b, env, st => bnd (ev gl cf a env st) fun w s => bnd (bor b (ev gl cf b env s) env s) fun y s' => (match w, y with
    | .fr (.list xs), .int k => if decide (-(2 ^ 62) ≤ k ∧ k < 2 ^ 62 ∧ xs.length * k.toNat ≤ SL) then some (.fr (.list (repD xs k)), s') else none
    | _, _ => none)
  | .cmp op a b, env, st => bnd (bor a (ev gl cf a env st) env st) fun x s => bnd (bor b (ev gl cf b env s) env s) fun y s' => ret ((cmpD op x y).map fun k => .d (.bool k)) s'
  | .chain o o' a b c, env, st => bnd (bor a (ev gl cf a env st) env st) fun x s => bnd (bor b (ev gl cf b env s) env s) fun y s' => bnd (ret (cmpD o x y) s') fun k s2 =>
      if k then bnd (bor c (ev gl cf c env s2) env s2) fun z s3 => ret ((cmpD o' y z).map fun k => .d (.bool k)) s3 else some (.d (.bool false), s2)
  | .isN a, env, st => bnd (bor a (ev gl cf a env st) env st) fun x s => some (.d (.bool (match x with | .none => true | _ => false)), s)
  | .isnN a, env, st => bnd (bor a (ev gl cf a env st) env st) fun x s => some (.d (.bool (match x with | .none => false | _ => true)), s)
  | .and a b, env, st => bnd (toD (ev gl cf a env st)) fun x s => bnd (ret (truD x) s) fun k s => if k then ev gl cf b env s else some (.d x, s)
  | .or a b, env, st => bnd (ev gl cf a env st) fun w s => bnd (ret w.toD s) fun x s => bnd (ret (truD x) s) fun k s => if k then some (w, s) else ev gl cf b env s
  | .not a, env, st => bnd (tru (bor a (ev gl cf a env st) env st)) fun k s => some (.d (.bool (!k)), s)
  | .ite c a b, env, st => bnd (tru (bor c (ev gl cf c env st) env st)) fun k s => if k then ev gl cf a env s else ev gl cf b env s
  | .ix a i, env, st => bnd (bor a (ev gl cf a env st) env st) fun x s => bnd (bor i (ev gl cf i env s) env s) fun y s' => ret ((ixD x y).map .d) s'
  | .bx i k, env, st => bnd (bor k (ev gl cf k env st) env st) fun y s => (match look env i with
    | .rf n => ret ((s[n]?).bind fun xs => (ixD (.list xs) y).map .d) s
    | _ => none)
  | .sl a lo hi, env, st => bnd (bor a (ev gl cf a env st) env st) fun x s => bnd (evo gl cf lo env s) fun l s1 => bnd (evo gl cf hi env s1) fun h s2 => ret (slD x l h) s2
  | .rev a, env, st => bnd (bor a (ev gl cf a env st) env st) fun x s => (match x with
    | .list xs => some (.fr (.list xs.reverse), s)
    | _ => none)
  | .call f es, env, st => bnd (eva gl cf es env st) fun ws s => cf f ws s
  | .callk f es ks pm, env, st => bnd (eva gl cf es env st) fun ws s => bnd (eva gl cf ks env s) fun zs s' => bnd (ret (pick (ws ++ zs) pm) s') fun us s' => cf f us s'
  | .f1 f a, env, st => bnd (bor a (ev gl cf a env st) env st) fun x s => ret (f1D f x) s
  | .f2 f a b, env, st => bnd (bor a (ev gl cf a env st) env st) fun x s => bnd (bor b (ev gl cf b env s) env s) fun y s' => ret (f2D f x y) s'
  | .m1 m a b, env, st => bnd (bor a (ev gl cf a env st) env st) fun x s => bnd (bor b (ev gl cf b env s) env s) fun y s' => ret (m1D m x y) s'
  | .idx a b, env, st => bnd (bor a (ev gl cf a env st) env st) fun x s => bnd (bor b (ev gl cf b env s) env s) fun y s1 => ret (idxD x y) s1
  | .dzip a b, env, st => bnd (bor a (ev gl cf a env st) env st) fun x s => bnd (bor b (ev gl cf b env s) env s) fun y s1 => ret (dzipD x y) s1
  | .dnew t, _, st => some (.fr (.dict (if t then [(.tuple [], .none)] else [])), st)
  | .dget2 a k d, env, st => bnd (bor a (ev gl cf a env st) env st) fun x s => bnd (bor k (ev gl cf k env s) env s) fun y s1 => bnd (toD (ev gl cf d env s1)) fun z s2 => ret (getD2 x y z) s2
  | .isi a ts, env, st => bnd (bor a (ev gl cf a env st) env st) fun x s => if noDict x then some (.d (.bool (ts.any (isTy x))), s) else none
  | .trg a, env, st => bnd (bor a (ev gl cf a env st) env st) fun x s => ret (((asInt x).bind rgD).map fun xs => .d (.tuple xs)) s
  | .lrg a, env, st => bnd (bor a (ev gl cf a env st) env st) fun x s => ret (((asInt x).bind rgD).map fun xs => .fr (.list xs)) s
  | .lrg2 a b, env, st => bnd (bor a (ev gl cf a env st) env st) fun x s => bnd (bor b (ev gl cf b env s) env s) fun y s' => ret (((asInt x).bind fun i => (asInt y).bind fun j => rg3D i j).map fun xs => .fr (.list xs)) s'
  | .lc vs e t it c, env, st => bnd (evi gl cf it env st) fun xs s => bnd (turns (bindT t) (fun e1 s1 => evc gl cf c e1 s1) (fun e1 s1 => toD (ev gl cf e e1 s1)) (wipeE env vs) xs [] s) fun ys s' => some (.fr (.list ys), s')
  | .lc2 vs ws e t it c t' it' c', env, st => bnd (evi gl cf it env st) fun xs s =>
      bnd (turns2 (bindT t) (fun e1 s1 => evc gl cf c e1 s1)
        (fun e1 acc s1 => bnd (evi gl cf it' e1 s1) fun zs s2 => turns (bindT t') (fun e2 s3 => evc gl cf c' e2 s3) (fun e2 s3 => toD (ev gl cf e e2 s3)) (wipeE e1 ws) zs acc s2) (wipeE env vs) xs [] s) fun ys s' => some (.fr (.list ys), s')
/-- several trees -/
def evs (gl : Nat → Option D) (cf : Cf) : Es → Ev → Sto → Option (List D × Sto)
  | .nil, _, st => some ([], st)
  | .cons e es, env, st => bnd (toD (ev gl cf e env st)) fun x s => bnd (evs gl cf es env s) fun xs s' => some (x :: xs, s')
/-- arguments -/
def eva (gl : Nat → Option D) (cf : Cf) : Es → Ev → Sto → Option (List Vl × Sto)
  | .nil, _, st => some ([], st)
  | .cons e es, env, st => bnd (ev gl cf e env st) fun x s => bnd (eva gl cf es env s) fun xs s' => some (argV x :: xs, s')
def evo (gl : Nat → Option D) (cf : Cf) : Oe → Ev → Sto → Option (Option Int × Sto)
  | .no, _, st => some (none, st)
  | .yes e, env, st => bnd (bor e (ev gl cf e env st) env st) fun x s => ret ((asInt x).map some) s
/-- a comprehension's test -/
def evc (gl : Nat → Option D) (cf : Cf) : Oe → Ev → Sto → Option (Bool × Sto)
  | .no, _, st => some (true, st)
  | .yes e, env, st => tru (bor e (ev gl cf e env st) env st)
/-- what is walked -/
def evi (gl : Nat → Option D) (cf : Cf) : It → Ev → Sto → Option (List D × Sto)
  | .of e, env, st => bnd (bor e (ev gl cf e env st) env st) fun x s => ret (walkD x) s
  | .rng1 a, env, st => bnd (bor a (ev gl cf a env st) env st) fun x s => ret ((asInt x).bind fun n => rg2D 0 n) s
  | .rng2 a b, env, st => bnd (bor a (ev gl cf a env st) env st) fun x s => bnd (bor b (ev gl cf b env s) env s) fun y s' => ret ((asInt x).bind fun i => (asInt y).bind fun j => rg2D i j) s'
  | .rng3 a b c, env, st => bnd (bor a (ev gl cf a env st) env st) fun x s => bnd (bor b (ev gl cf b env s) env s) fun y s' => bnd (bor c (ev gl cf c env s') env s') fun z s2 => ret ((asInt x).bind fun i => (asInt y).bind fun j => (asInt z).bind fun k => rgC i j k) s2
  | .enm a, env, st => bnd (bor a (ev gl cf a env st) env st) fun x s => ret ((items x).map (enumD 0)) s
  | .zip a b, env, st => bnd (bor a (ev gl cf a env st) env st) fun x s => bnd (bor b (ev gl cf b env s) env s) fun y s' => ret ((items x).bind fun xs => (items y).map fun ys => zipD xs ys) s'
end
/-! ### statements -/
mutual
inductive S where
  | asg (t : Tg) (e : E)            -- target = tree
  | own (i : Nat) (e : E)           -- name = a new list, to be changed
  | abox (i : Nat) (e : E)           -- name = a box of the store
  | mv (i j : Nat)                  -- name = name: the list changes its owner
  | fz (is : List Nat) (s : S)      -- these lists are not changed any more
  | stix (i : Nat) (k e : E)        -- name[k] = e
  | dputT (i : Nat) (ks : Es) (e : E)        -- name[a, b] = e: a dict, a tuple written there
  | app (i : Nat) (e : E) | ext (i : Nat) (e : E)
  | apop (i j : Nat) (k : E)        -- name.append(other.pop(k))
  | parS (ts : List (Nat × Option E)) (es : Es)   -- name[k], name = .., ..
  | iteL (is : List Nat) (c : E) (a b : Ss)        -- these lists are not changed in the test
  | par (i : Nat) (oi : Bool) (e : E) (j : Nat) (oj : Bool) (f : E)   -- name, name = .., .. (the flags: a new list, to be changed)
  | ex (e : E)
  | ret (e : E) | reto (i : Nat) | ret0 | rbox (es : Es)
  | ite (c : E) (a b : Ss)
  | wh (c : E) (b : Ss)
  | for' (t : Tg) (it : It) (b : Ss)
  | brk | cnt | pass | never
inductive Ss where | nil | cons (s : S) (ss : Ss)
end
inductive Fl where | nx | bk | ct | rt (w : Vl)
abbrev SR := Option (Fl × Ev × Sto)
def ownAt (env : Ev) (i : Nat) (x : D) : Option Ev := if i < env.length then some (env.set i (.ow x)) else none
def setNth (xs : List D) (k : D) (y : D) : Option (List D) := match k with
  | .int i => (L2.ixN xs.length i).map fun j => xs.set j y
  | _ => none
def slotP (o : Bool) (w : Vl) : Option Slot := match o, w with
  | true, .fr x => some (.ow x)
  | false, w => w.toD.map .sh
  | _, _ => none
def freeze (env : Ev) : List Nat → Option Ev
  | [] => some env
  | i :: is => (match look env i with
    | .ow x => freeze (env.set i (.sh x)) is
    | .sh _ => freeze env is
    | _ => none)
/-- name[k] = value -/
def putAt (env : Ev) (i : Nat) (kx y : D) (st : Sto) : Option (Ev × Sto) := match look env i with
  | .ow (.list xs) => (setNth xs kx y).map fun ys => (env.set i (.ow (.list ys)), st)
  | .ow (.dict ds) => if (keyD kx && decide (ds.length < SL)) = true then (dents kx ds).map fun es => (env.set i (.ow (.dict (dput kx y es))), st) else none
  | .rf n => (st[n]?).bind fun xs => (setNth xs kx y).map fun ys => (env, st.set n ys)
  | _ => none
def putAll (kf : E → Ev → Sto → Option (D × Sto)) : List (Nat × Option E) → List D → Ev → Sto → Option (Ev × Sto)
  | [], [], env, st => some (env, st)
  | (i, none) :: ts, x :: xs, env, st => if i < env.length then putAll kf ts xs (env.set i (.sh x)) st else none
  | (i, some k) :: ts, x :: xs, env, st => bnd (kf k env st) fun kx s1 => (putAt env i kx x s1).bind fun p => putAll kf ts xs p.1 p.2
  | _, _, _, _ => none
/-- a store of plain values -/
def scalD : D → Bool
  | .int _ => true
  | .bool _ => true
  | .str _ => true
  | .none => true
  | _ => false
def scalS (st : Sto) : Bool := st.all fun xs => xs.all scalD
/-- a loop's turns: the list that is walked by its name is locked meanwhile -/
def forL (bd : D → Ev → Option Ev) (body : Ev → Sto → SR) : List D → Ev → Sto → SR
  | [], env, st => some (.nx, env, st)
  | x :: xs, env, st => match bd x env with
    | none => none
    | some e1 => match body e1 st with
      | some (.nx, e2, s2) => forL bd body xs e2 s2
      | some (.ct, e2, s2) => forL bd body xs e2 s2
      | some (.bk, e2, s2) => some (.nx, e2, s2)
      | some (.rt w, e2, s2) => some (.rt w, e2, s2)
      | none => none
def whL (tt : Ev → Sto → Option (Bool × Sto)) (body : Ev → Sto → SR) : Nat → Ev → Sto → SR
  | 0, _, _ => none
  | n + 1, env, st => match tt env st with
    | none => none
    | some (false, s1) => some (.nx, env, s1)
    | some (true, s1) => match body env s1 with
      | some (.nx, e2, s2) => whL tt body n e2 s2
      | some (.ct, e2, s2) => whL tt body n e2 s2
      | some (.bk, e2, s2) => some (.nx, e2, s2)
      | some (.rt w, e2, s2) => some (.rt w, e2, s2)
      | none => none
def lockOf (it : It) (env : Ev) : Option Nat := match it with
  | .of (.v i) => (match look env i with
    | .ow _ => some i
    | _ => none)
  | .enm (.v i) => (match look env i with
    | .ow _ => some i
    | _ => none)
  | _ => none
def lock (o : Option Nat) (env : Ev) : Ev := match o with
  | none => env
  | some i => (match look env i with
    | .ow x => env.set i (.lk x)
    | _ => env)
/-- lists that are changed are out of sight -/
def hideW (env : Ev) : Ev := env.map fun s => match s with
  | .ow _ => .no
  | s => s
def unlock (o : Option Nat) (r : SR) : SR := match o, r with
  | some i, some (.nx, env, st) => (match look env i with
    | .lk x => some (.nx, env.set i (.ow x), st)
    | _ => none)
  | some _, some (.rt w, env, st) => some (.rt w, env, st)
  | some _, _ => none
  | none, r => r
/-- a list is walked by its name -/
def isV : E → Bool
  | .v _ => true
  | _ => false
def brw : It → Bool
  | .of e => isV e
  | .enm e => isV e
  | .zip a b => isV a || isV b
  | _ => false
def hideB (b : Bool) (env : Ev) : Ev := if b then hideW env else env
def sbnd (r : SR) (k : Ev → Sto → SR) : SR := match r with
  | some (.nx, env, st) => k env st
  | r => r
mutual
def exec (gl : Nat → Option D) (cf : Cf) (W : Nat) : S → Ev → Sto → SR
  | .asg t e, env, st => match toD (ev gl cf e env st) with
    | some (x, s) => (bindT t x env).map fun e1 => (.nx, e1, s)
    | none => none
  | .own i e, env, st => match ev gl cf e env st with
    | some (.fr x, s) => (ownAt env i x).map fun e1 => (.nx, e1, s)
    | _ => none
  | .abox i e, env, st => match ev gl cf e env st with
    | some (.rf n, s) => if i < env.length then some (.nx, env.set i (.rf n), s) else none
    | _ => none
  | .mv i j, env, st => if i = j then none else match look env j with
    | .ow x => (ownAt (env.set j .no) i x).map fun e1 => (.nx, e1, st)
    | _ => none
  | .fz is s, env, st => match freeze env is with
    | some e1 => exec gl cf W s e1 st
    | none => none
  | .stix i k e, env, st => match toD (ev gl cf e env st) with
    | some (y, s) => (match bor k (ev gl cf k env s) env s with
      | some (kx, s1) => (match look env i with
        | .ow (.list xs) => (setNth xs kx y).bind fun ys => some (.nx, env.set i (.ow (.list ys)), s1)
        | .ow (.dict ds) => if (keyD kx && decide (ds.length < SL)) = true then (dents kx ds).map fun es => (.nx, env.set i (.ow (.dict (dput kx y es))), s1) else none
        | .rf n => (s1[n]?).bind fun xs => (setNth xs kx y).bind fun ys => some (.nx, env, s1.set n ys)
        | _ => none)
      | none => none)
    | none => none
  | .dputT i ks e, env, st => match toD (ev gl cf e env st) with
    | some (y, s) => (match evs gl cf ks env s with
      | some (zs, s1) => (match look env i with
        | .ow (.dict ds) => if (tkeyD (.tuple zs) && decide (ds.length < SL) && decide (zs.length ≤ SL)) = true then (dents (.tuple zs) ds).map fun es => (.nx, env.set i (.ow (.dict ((.tuple [], .none) :: dput (.tuple zs) y es))), s1) else none
        | _ => none)
      | none => none)
    | none => none
  | .app i e, env, st => match toD (ev gl cf e env st) with
    | some (y, s) => (match look env i with
      | .ow (.list xs) => if xs.length < SL then some (.nx, env.set i (.ow (.list (xs ++ [y]))), s) else none
      | _ => none)
    | none => none
  | .ext i e, env, st => match ev gl cf e env st with
    | some (.fr (.list ys), s) => (match look env i with
      | .ow (.list xs) => if xs.length + ys.length ≤ SL then some (.nx, env.set i (.ow (.list (xs ++ ys))), s) else none
      | _ => none)
    | _ => none
  | .apop i j k, env, st => match bor k (ev gl cf k env st) env st with
    | some (kx, s) => (match look env i, look env j, kx with
      | .ow (.list xs), .ow (.list ys), .int n => if i ≠ j ∧ xs.length < SL ∧ -(2 ^ 62) ≤ n ∧ n < 2 ^ 62 then (L2.ixN ys.length n).bind fun m => (ys[m]?).bind fun y =>
          some (.nx, (env.set j (.ow (.list (ys.eraseIdx m)))).set i (.ow (.list (xs ++ [y]))), s) else none
      | _, _, _ => none)
    | none => none
  | .par i oi e j oj f, env, st => match ev gl cf e env st with
    | some (w, s) => (match ev gl cf f env s with
      | some (u, s2) => (match slotP oi w, slotP oj u with
        | some a, some b => if i ≠ j ∧ i < env.length ∧ j < env.length then some (.nx, (env.set i a).set j b, s2) else none
        | _, _ => none)
      | none => none)
    | none => none
  | .parS ts es, env, st => match evs gl cf es env st with
    | some (xs, s) => (putAll (fun k e1 s1 => bor k (ev gl cf k e1 s1) e1 s1) ts xs env s).map fun p => (.nx, p.1, p.2)
    | none => none
  | .iteL is c a b, env, st => match freeze env is with
    | some e1 => (match tru (bor c (ev gl cf c e1 st) e1 st) with
      | some (true, s) => if scalS s = true then execs gl cf W a env s else none
      | some (false, s) => if scalS s = true then execs gl cf W b env s else none
      | none => none)
    | none => none
  | .ex e, env, st => match ev gl cf e env st with
    | some (_, s) => some (.nx, env, s)
    | none => none
  | .ret e, env, st => match ev gl cf e env st with
    | some (w, s) => some (.rt w, env, s)
    | none => none
  | .reto i, env, st => (match look env i with
    | .ow x => some (.rt (.fr x), env, st)
    | _ => none)
  | .ret0, env, st => some (.rt (.d .none), env, st)
  | .rbox es, env, st => match evs gl cf es env st with
    | some (xs, s) => if xs.length ≤ SL then some (.rt (.rf s.length), env, s ++ [xs]) else none
    | none => none
  | .ite c a b, env, st => match tru (bor c (ev gl cf c env st) env st) with
    | some (true, s) => execs gl cf W a env s
    | some (false, s) => execs gl cf W b env s
    | none => none
  | .wh c b, env, st => whL (fun e1 s1 => tru (bor c (ev gl cf c e1 s1) e1 s1)) (fun e1 s1 => execs gl cf W b e1 s1) W env st
  | .for' t it b, env, st => match evi gl cf it (hideB (brw it) (lock (lockOf it env) env)) st with
    | some (xs, s) => unlock (lockOf it env) (forL (bindT t) (fun e1 s1 => execs gl cf W b e1 s1) xs (lock (lockOf it env) env) s)
    | none => none
  | .brk, env, st => some (.bk, env, st)
  | .cnt, env, st => some (.ct, env, st)
  | .pass, env, st => some (.nx, env, st)
  | .never, _, _ => none
def execs (gl : Nat → Option D) (cf : Cf) (W : Nat) : Ss → Ev → Sto → SR
  | .nil, env, st => some (.nx, env, st)
  | .cons s ss, env, st => sbnd (exec gl cf W s env st) fun e1 s1 => execs gl cf W ss e1 s1
end
/-- a def: its parameters, its names, its body -/
structure Fn where
  np : Nat
  nn : Nat
  body : Ss
def slotOf : Vl → Slot
  | .d x => .sh x
  | .fr x => .sh x
  | .rf n => .rf n
/-- the value that leaves a def -/
def out (r : SR) : Option (Vl × Sto) := match r with
  | some (.nx, _, st) => some (.d .none, st)
  | some (.rt w, _, st) => some (w, st)
  | _ => none
def run (gl : Nat → Option D) (P : List Fn) (W : Nat) : Nat → Cf
  | 0, _, _, _ => none
  | k + 1, f, ws, st => match P[f]? with
    | some F => if ws.length = F.np then out (execs gl (run gl P W k) W F.body (ws.map slotOf ++ List.replicate (F.nn - F.np) .no) st) else none
    | none => none
end Pi

end
section
set_option Elab.async false
set_option linter.all false
set_option maxRecDepth 100000
set_option maxHeartbeats 1000000
namespace Pi
open PySem PySem.Spec PyProof.Rows L2
/-! ### trees in the heap -/
def kD : Key → D
  | .inl i => .int i
  | .inr x => .str x
def WrL (K : PySem.W.Frag) (a : Addr) (xs : List V) : Prop :=
  ∃ (o : Obj) (its : Array Value) (n : Nat), K.lookup a = some o ∧ o.cls = .type "list" ∧ o.dict = none ∧ o.data = .seq its n ∧ its.size ≤ sizeLine ∧ Vals xs its.toList
def WrT (K : PySem.W.Frag) (a : Addr) (xs : List V) : Prop :=
  ∃ (o : Obj) (its : Array Value) (n : Nat), K.lookup a = some o ∧ o.cls = .type "tuple" ∧ o.data = .seq its n ∧ its.size ≤ sizeLine ∧ Vals xs its.toList
def AtL (K : PySem.W.Frag) (B : Addr → Prop) (H : Hp) (a : Addr) (xs : List V) : Prop := (¬ B a ∧ Rd H a (.lst xs)) ∨ WrL K a xs
def AtT (K : PySem.W.Frag) (B : Addr → Prop) (H : Hp) (a : Addr) (xs : List V) : Prop := ¬ B a ∧ ((∃ o : Obj, o.dict = none ∧ H a = some (.frz o (.tup xs))) ∨ (kB = false ∧ Rd H a (.tup xs)))
mutual
inductive Rp (K : PySem.W.Frag) (B : Addr → Prop) (H : Hp) : V → D → Prop
  | non : Rp K B H .non .none
  | bl (b : Bool) : Rp K B H (.bl b) (.bool b)
  | int (i : Int) : Rp K B H (.int i) (.int i)
  | str (x : Str) : Rp K B H (.str x) (.str x)
  | lst {a : Addr} {xs : List V} {ds : List D} : AtL K B H a xs → RpAll K B H xs ds → Rp K B H (.ref a) (.list ds)
  | tup {a : Addr} {xs : List V} {ds : List D} : AtT K B H a xs → RpAll K B H xs ds → Rp K B H (.ref a) (.tuple ds)
  | dK {a : Addr} {kvs : List (Key × V)} {ds : List (D × D)} : ¬ B a → H a = some (.dK kvs) → RpKv K B H kvs ds → Rp K B H (.ref a) (.dict ds)
  | dT {a : Addr} {kvs : List (List Key × V)} {ds : List (D × D)} : ¬ B a → H a = some (.dT kvs) → RpTv K B H kvs ds → Rp K B H (.ref a) (.dict ((.tuple [], .none) :: ds))
inductive RpAll (K : PySem.W.Frag) (B : Addr → Prop) (H : Hp) : List V → List D → Prop
  | nil : RpAll K B H [] []
  | cons {v : V} {vs : List V} {d : D} {ds : List D} : Rp K B H v d → RpAll K B H vs ds → RpAll K B H (v :: vs) (d :: ds)
inductive RpKv (K : PySem.W.Frag) (B : Addr → Prop) (H : Hp) : List (Key × V) → List (D × D) → Prop
  | nil : RpKv K B H [] []
  | cons {k : Key} {v : V} {vs : List (Key × V)} {d : D} {ds : List (D × D)} : Rp K B H v d → RpKv K B H vs ds → RpKv K B H ((k, v) :: vs) ((kD k, d) :: ds)
inductive RpTv (K : PySem.W.Frag) (B : Addr → Prop) (H : Hp) : List (List Key × V) → List (D × D) → Prop
  | nil : RpTv K B H [] []
  | cons {k : List Key} {v : V} {vs : List (List Key × V)} {d : D} {ds : List (D × D)} : Rp K B H v d → RpTv K B H vs ds → RpTv K B H ((k, v) :: vs) ((.tuple (k.map kD), d) :: ds)
end
section
variable {K : PySem.W.Frag} {B B' : Addr → Prop} {H H' : Hp}
/-- what is not barred stands, and is not barred then -/
def Keep (B B' : Addr → Prop) (H H' : Hp) : Prop := ∀ a o, ¬ B a → H a = some o → H' a = some o ∧ ¬ B' a
theorem Keep.rd (f : Keep B B' H H') {a : Addr} {u : HO} (n : ¬ B a) (h : Rd H a u) : ¬ B' a ∧ Rd H' a u := by
  rcases h with h | ⟨o, h⟩
  · exact ⟨(f a _ n h).2, .inl (f a _ n h).1⟩
  · exact ⟨(f a _ n h).2, .inr ⟨o, (f a _ n h).1⟩⟩
theorem AtL.keep (f : Keep B B' H H') {a : Addr} {xs : List V} (h : AtL K B H a xs) : AtL K B' H' a xs := by
  rcases h with ⟨n, h⟩ | h
  · exact .inl (f.rd n h)
  · exact .inr h
theorem AtT.keep (f : Keep B B' H H') {a : Addr} {xs : List V} (h : AtT K B H a xs) : AtT K B' H' a xs := by
  obtain ⟨n, h⟩ := h
  rcases h with ⟨o, ho, h⟩ | ⟨k, h⟩
  · exact ⟨(f a _ n h).2, .inl ⟨o, ho, (f a _ n h).1⟩⟩
  · exact ⟨(f.rd n h).1, .inr ⟨k, (f.rd n h).2⟩⟩
theorem AtL.sq {a : Addr} {xs : List V} (h : AtL K B H a xs) : SqL K H a xs := by
  rcases h with ⟨_, h⟩ | h
  · exact .inl h
  · exact .inr h
theorem AtT.sq {a : Addr} {xs : List V} (h : AtT K B H a xs) : SqT K H a xs := by
  rcases h.2 with ⟨o, _, h⟩ | ⟨_, h⟩
  · exact .inl (.inr ⟨o, h⟩)
  · exact .inl h
mutual
theorem Rp.keep (f : Keep B B' H H') : ∀ {v : V} {d : D}, Rp K B H v d → Rp K B' H' v d
  | _, _, .non => .non
  | _, _, .bl b => .bl b
  | _, _, .int i => .int i
  | _, _, .str x => .str x
  | _, _, .lst h r => .lst (h.keep f) (RpAll.keep f r)
  | _, _, .tup h r => .tup (h.keep f) (RpAll.keep f r)
  | _, _, .dK n h r => .dK (f _ _ n h).2 (f _ _ n h).1 (RpKv.keep f r)
  | _, _, .dT n h r => .dT (f _ _ n h).2 (f _ _ n h).1 (RpTv.keep f r)
theorem RpAll.keep (f : Keep B B' H H') : ∀ {v : List V} {d : List D}, RpAll K B H v d → RpAll K B' H' v d
  | _, _, .nil => .nil
  | _, _, .cons h r => .cons (Rp.keep f h) (RpAll.keep f r)
theorem RpKv.keep (f : Keep B B' H H') : ∀ {v : List (Key × V)} {d : List (D × D)}, RpKv K B H v d → RpKv K B' H' v d
  | _, _, .nil => .nil
  | _, _, .cons h r => .cons (Rp.keep f h) (RpKv.keep f r)
theorem RpTv.keep (f : Keep B B' H H') : ∀ {v : List (List Key × V)} {d : List (D × D)}, RpTv K B H v d → RpTv K B' H' v d
  | _, _, .nil => .nil
  | _, _, .cons h r => .cons (Rp.keep f h) (RpTv.keep f r)
end
theorem RpAll.length : ∀ {vs : List V} {ds : List D}, RpAll K B H vs ds → vs.length = ds.length
  | _, _, .nil => rfl
  | _, _, .cons _ r => congrArg (· + 1) r.length
theorem RpAll.get : ∀ {vs : List V} {ds : List D}, RpAll K B H vs ds → ∀ {i : Nat} {d : D}, ds[i]? = some d → ∃ v, vs[i]? = some v ∧ Rp K B H v d
  | _, _, .nil, i, d, h => by simp at h
  | _, _, .cons h r, 0, d, e => by simp at e; subst e; exact ⟨_, rfl, h⟩
  | _, _, .cons _ r, i + 1, d, e => by
    obtain ⟨v, h1, h2⟩ := r.get (i := i) (by simpa using e)
    exact ⟨v, by simpa using h1, h2⟩
theorem RpAll.getV {vs : List V} {ds : List D} (r : RpAll K B H vs ds) {i : Nat} {v : V} (e : vs[i]? = some v) : ∃ d, ds[i]? = some d ∧ Rp K B H v d := by
  have hi : i < vs.length := (List.getElem?_eq_some_iff.mp e).1
  obtain ⟨u, h1, h2⟩ := r.get (List.getElem?_eq_getElem (by rw [← r.length]; exact hi))
  rw [e] at h1; cases h1
  exact ⟨_, List.getElem?_eq_getElem (by rw [← r.length]; exact hi), h2⟩
theorem RpAll.append : ∀ {vs us : List V} {ds es : List D}, RpAll K B H vs ds → RpAll K B H us es → RpAll K B H (vs ++ us) (ds ++ es)
  | _, _, _, _, .nil, s => s
  | _, _, _, _, .cons h r, s => .cons h (r.append s)
theorem RpAll.one {v : V} {d : D} (h : Rp K B H v d) : RpAll K B H [v] [d] := .cons h .nil
theorem RpAll.take (n : Nat) : ∀ {vs : List V} {ds : List D}, RpAll K B H vs ds → RpAll K B H (vs.take n) (ds.take n) := by
  induction n with
  | zero => intro vs ds h; simpa using RpAll.nil
  | succ n ih =>
    intro vs ds h
    cases h with
    | nil => exact .nil
    | cons h r => exact .cons h (ih r)
theorem RpAll.drop (n : Nat) : ∀ {vs : List V} {ds : List D}, RpAll K B H vs ds → RpAll K B H (vs.drop n) (ds.drop n) := by
  induction n with
  | zero => intro vs ds h; simpa using h
  | succ n ih =>
    intro vs ds h
    cases h with
    | nil => exact .nil
    | cons h r => exact ih r
theorem RpAll.set {v : V} {d : D} (h : Rp K B H v d) : ∀ (i : Nat) {vs : List V} {ds : List D}, RpAll K B H vs ds → RpAll K B H (vs.set i v) (ds.set i d)
  | _, _, _, .nil => .nil
  | 0, _, _, .cons _ r => .cons h r
  | i + 1, _, _, .cons g r => .cons g (RpAll.set h i r)
theorem RpAll.reverse : ∀ {vs : List V} {ds : List D}, RpAll K B H vs ds → RpAll K B H vs.reverse ds.reverse
  | _, _, .nil => .nil
  | _, _, .cons h r => by
    rw [List.reverse_cons, List.reverse_cons]
    exact r.reverse.append (.one h)
theorem RpAll.rep {vs : List V} {ds : List D} (h : RpAll K B H vs ds) : ∀ k : Nat, RpAll K B H (List.replicate k vs).flatten (List.replicate k ds).flatten
  | 0 => .nil
  | k + 1 => by
    rw [List.replicate_succ, List.replicate_succ, List.flatten_cons, List.flatten_cons]
    exact h.append (h.rep k)
/-- a list that is changed by its owner -/
def OwAt (K : PySem.W.Frag) (B : Addr → Prop) (H H' : Hp) (a : Addr) : D → Prop
  | .list xs => ∃ vs, H' a = some (.lst vs) ∧ RpAll K B H vs xs
  | .dict ds => (∃ kvs, H' a = some (.dK kvs) ∧ RpKv K B H kvs ds) ∨ ∃ kvs es, ds = (.tuple [], .none) :: es ∧ H' a = some (.dT kvs) ∧ RpTv K B H kvs es
  | _ => False
theorem OwAt.keep {H1 H1' : Hp} (f : Keep B B' H H') {a : Addr} (ha : ∀ o, H1 a = some o → H1' a = some o) {x : D} (h : OwAt K B H H1 a x) : OwAt K B' H' H1' a x := by
  cases x with
  | list xs => obtain ⟨vs, e, r⟩ := h; exact ⟨vs, ha _ e, r.keep f⟩
  | dict ds =>
    rcases h with ⟨vs, e, r⟩ | ⟨vs, es, q, e, r⟩
    · exact .inl ⟨vs, ha _ e, r.keep f⟩
    · exact .inr ⟨vs, es, q, ha _ e, r.keep f⟩
  | none => exact h.elim
  | bool b => exact h.elim
  | int b => exact h.elim
  | str b => exact h.elim
  | tuple b => exact h.elim
theorem OwAt.some {H1 : Hp} {a : Addr} {x : D} (h : OwAt K B H H1 a x) : ∃ o, H1 a = .some o := by
  cases x with
  | list xs => obtain ⟨vs, e, r⟩ := h; exact ⟨_, e⟩
  | dict ds =>
    rcases h with ⟨vs, e, r⟩ | ⟨vs, es, q, e, r⟩
    · exact ⟨_, e⟩
    · exact ⟨_, e⟩
  | none => exact h.elim
  | bool b => exact h.elim
  | int b => exact h.elim
  | str b => exact h.elim
  | tuple b => exact h.elim
theorem OwAt.rp {a : Addr} {x : D} (n : ¬ B a) (h : OwAt K B H H a x) : Rp K B H (.ref a) x := by
  cases x with
  | list xs => obtain ⟨vs, e, r⟩ := h; exact .lst (.inl ⟨n, .inl e⟩) r
  | dict ds =>
    rcases h with ⟨vs, e, r⟩ | ⟨vs, es, q, e, r⟩
    · exact .dK n e r
    · subst q; exact .dT n e r
  | none => exact h.elim
  | bool b => exact h.elim
  | int b => exact h.elim
  | str b => exact h.elim
  | tuple b => exact h.elim
/-- a tree that is only read -/
def RpW (K : PySem.W.Frag) (B : Addr → Prop) (H : Hp) (v : V) (x : D) : Prop := Rp K B H v x ∨ ∃ a, v = .ref a ∧ OwAt K B H H a x
theorem RpW.list {v : V} {xs : List D} (h : RpW K B H v (.list xs)) : ∃ a vs, v = .ref a ∧ SqL K H a vs ∧ RpAll K B H vs xs := by
  rcases h with h | ⟨a, rfl, vs, e, r⟩
  · cases h with
    | lst h r => exact ⟨_, _, rfl, h.sq, r⟩
  · exact ⟨a, vs, rfl, .inl (.inl e), r⟩
theorem RpW.tuple {v : V} {xs : List D} (h : RpW K B H v (.tuple xs)) : ∃ a vs, v = .ref a ∧ SqT K H a vs ∧ RpAll K B H vs xs ∧ Rp K B H v (.tuple xs) := by
  rcases h with h | ⟨a, rfl, h⟩
  · cases h with
    | tup h r => exact ⟨_, _, rfl, h.sq, r, .tup h r⟩
  · exact h.elim
theorem RpW.int {v : V} {i : Int} (h : RpW K B H v (.int i)) : v = .int i := by
  rcases h with h | ⟨a, rfl, h⟩
  · cases h; rfl
  · exact h.elim
theorem RpW.bool {v : V} {b : Bool} (h : RpW K B H v (.bool b)) : v = .bl b := by
  rcases h with h | ⟨a, rfl, h⟩
  · cases h; rfl
  · exact h.elim
theorem RpW.str {v : V} {b : Str} (h : RpW K B H v (.str b)) : v = .str b := by
  rcases h with h | ⟨a, rfl, h⟩
  · cases h; rfl
  · exact h.elim
theorem RpW.none {v : V} (h : RpW K B H v .none) : v = .non := by
  rcases h with h | ⟨a, rfl, h⟩
  · cases h; rfl
  · exact h.elim
theorem RpW.keep (f : Keep B B' H H') (g : ∀ a o, H a = some o → B a → H' a = some o) {v : V} {x : D} (h : RpW K B H v x) : RpW K B' H' v x := by
  rcases h with h | ⟨a, rfl, h⟩
  · exact .inl (h.keep f)
  · refine .inr ⟨a, rfl, h.keep f fun o e => ?_⟩
    by_cases n : B a
    · exact g a o e n
    · exact (f a o n e).1
/-! ### data to compare -/
theorem plainAll_cons {x : D} {xs : List D} (h : PyData.plainAll (x :: xs) = true) : x.plain = true ∧ PyData.plainAll xs = true := by
  simpa [PyData.plainAll] using h
mutual
theorem Rp.dp : ∀ {v : V} {d : D}, Rp K B H v d → d.plain = true → Dp K H v d
  | _, _, .non, _ => .non
  | _, _, .bl b, _ => .bl b
  | _, _, .int i, _ => .int i
  | _, _, .str x, _ => .str x
  | _, _, .lst h r, c => .lst h.sq (RpAll.dp r (by simpa [PyData.plain] using c))
  | _, _, .tup h r, c => .tup h.sq (RpAll.dp r (by simpa [PyData.plain] using c))
  | _, _, .dK _ _ _, c => by simp [PyData.plain] at c
  | _, _, .dT _ _ _, c => by simp [PyData.plain] at c
theorem RpAll.dp : ∀ {v : List V} {d : List D}, RpAll K B H v d → PyData.plainAll d = true → DpAll K H v d
  | _, _, .nil, _ => .nil
  | _, _, .cons h r, c => .cons (h.dp (plainAll_cons c).1) (r.dp (plainAll_cons c).2)
end
theorem RpW.dp {v : V} {d : D} (h : RpW K B H v d) (c : d.plain = true) : Dp K H v d := by
  rcases h with h | ⟨a, rfl, h⟩
  · exact h.dp c
  · cases d with
    | list xs => obtain ⟨vs, e, r⟩ := h; exact .lst (.inl (.inl e)) (r.dp (by simpa [PyData.plain] using c))
    | dict ds => simp [PyData.plain] at c
    | none => exact h.elim
    | bool b => exact h.elim
    | int b => exact h.elim
    | str b => exact h.elim
    | tuple b => exact h.elim
end

/-! ### the store, the names -/
def Bar (M : List Addr) (U : Addr → Prop) (a : Addr) : Prop := a ∈ M ∨ U a
/-- a tree that is only read: a tree, or what an owner of the frame holds -/
def RpU (K : PySem.W.Frag) (M : List Addr) (U Z : Addr → Prop) (H : Hp) (v : V) (x : D) : Prop := Rp K (Bar M U) H v x ∨ ∃ a, v = .ref a ∧ (U a ∧ Z a) ∧ OwAt K (Bar M U) H H a x
/-- the addresses that the names' own lists have -/
def OwV (σ : L2.St) (env : Ev) (a : Addr) : Prop := ∃ (i : Nat) (x : D), (look env i = .ow x ∨ look env i = .lk x) ∧ (σ[i]?).join = some (.ref a)
theorem RpU.w {K : PySem.W.Frag} {M : List Addr} {U Z : Addr → Prop} {H : Hp} {v : V} {x : D} (h : RpU K M U Z H v x) : RpW K (Bar M U) H v x := by
  rcases h with h | ⟨a, e, _, h⟩
  · exact .inl h
  · exact .inr ⟨a, e, h⟩
structure StoOk (K : PySem.W.Frag) (M : List Addr) (U : Addr → Prop) (H : Hp) (st : Sto) : Prop where
  len : M.length = st.length
  nd : M.Nodup
  ap : ∀ a ∈ M, ¬ U a
  box : ∀ (n : Nat) (xs : List D), st[n]? = some xs → ∃ (a : Addr) (vs : List V), M[n]? = some a ∧ H a = some (.lst vs) ∧ RpAll K (Bar M U) H vs xs
  tr : ∀ a, U a → ∃ o, H a = some o
structure Stp (M : List Addr) (H : Hp) (M' : List Addr) (H' : Hp) : Prop where
  pre : M <+: M'
  new : ∀ a ∈ M', a ∈ M ∨ H a = none
  fr : ∀ a o, a ∉ M → H a = some o → H' a = some o
def SltR (K : PySem.W.Frag) (M : List Addr) (U : Addr → Prop) (H : Hp) (s : Slot) (o : Option V) : Prop := match s with
  | .no => True
  | .sh x => ∃ v, o = some v ∧ Rp K (Bar M U) H v x
  | .ow x => ∃ a, o = some (.ref a) ∧ U a ∧ OwAt K (Bar M U) H H a x
  | .lk x => ∃ a, o = some (.ref a) ∧ U a ∧ OwAt K (Bar M U) H H a x
  | .rf n => ∃ a, M[n]? = some a ∧ o = some (.ref a)
structure ER (K : PySem.W.Frag) (M : List Addr) (U : Addr → Prop) (H : Hp) (st : Sto) (σ : L2.St) (env : Ev) : Prop where
  sto : StoOk K M U H st
  len : env.length = σ.length
  env : ∀ i, SltR K M U H (look env i) (σ[i]?).join
section
variable {K : PySem.W.Frag} {M M' M2 : List Addr} {U U' : Addr → Prop} {H H' H2 : Hp} {st st' : Sto} {σ : L2.St} {env : Ev}
theorem StoOk.tracked (s : StoOk K M U H st) : ∀ a, Bar M U a → ∃ o, H a = some o := fun a h => by
  rcases h with h | h
  · obtain ⟨n, hn, e⟩ := List.getElem_of_mem h
    have hs : n < st.length := by rw [← s.len]; exact hn
    obtain ⟨b, vs, h1, h2, _⟩ := s.box n (st[n]) (List.getElem?_eq_getElem hs)
    rw [List.getElem?_eq_getElem hn, e] at h1
    cases h1
    exact ⟨_, h2⟩
  · exact s.tr a h
theorem Stp.refl : Stp M H M H := ⟨List.prefix_refl _, fun _ h => .inl h, fun _ _ _ h => h⟩
theorem Stp.mem (s : Stp M H M' H') {a : Addr} (h : a ∈ M) : a ∈ M' := s.pre.subset h
theorem Stp.old (s : Stp M H M' H') {a : Addr} {o : HO} (n : a ∉ M) (h : H a = some o) : a ∉ M' := fun q => by
  rcases s.new a q with z | z
  · exact n z
  · rw [z] at h; cases h
theorem Stp.none_of (s : Stp M H M' H') {a : Addr} (n : a ∉ M) (h : H' a = none) : H a = none := by
  cases q : H a with
  | none => rfl
  | some o => rw [s.fr a o n q] at h; cases h
theorem Stp.trans (s : Stp M H M' H') (t : Stp M' H' M2 H2) : Stp M H M2 H2 where
  pre := s.pre.trans t.pre
  new := fun a h => by
    rcases t.new a h with z | z
    · exact s.new a z
    · by_cases n : a ∈ M
      · exact .inl n
      · exact .inr (s.none_of n z)
  fr := fun a o n h => t.fr a o (s.old n h) (s.fr a o n h)
/-- nothing but growth -/
theorem Stp.grow (g : ∀ a o, H a = some o → H' a = some o) : Stp M H M H' := ⟨List.prefix_refl _, fun _ h => .inl h, fun a o _ h => g a o h⟩
theorem Stp.keep (s : Stp M H M' H') : Keep (Bar M U) (Bar M' U) H H' := fun a o n h => by
  have nm : a ∉ M := fun z => n (.inl z)
  refine ⟨s.fr a o nm h, fun z => ?_⟩
  rcases z with z | z
  · exact s.old nm h z
  · exact n (.inr z)
theorem StoOk.grow (s : StoOk K M U H st) (g : ∀ a o, H a = some o → H' a = some o) : StoOk K M U H' st :=
  ⟨s.len, s.nd, s.ap, fun n xs e => by
    obtain ⟨a, vs, h1, h2, h3⟩ := s.box n xs e
    exact ⟨a, vs, h1, g _ _ h2, h3.keep (Stp.grow g).keep⟩, fun a h => let ⟨o, e⟩ := s.tr a h; ⟨o, g _ _ e⟩⟩
theorem Rp.step (s : Stp M H M' H') {v : V} {x : D} (h : Rp K (Bar M U) H v x) : Rp K (Bar M' U) H' v x := h.keep s.keep
theorem RpAll.step (s : Stp M H M' H') {v : List V} {x : List D} (h : RpAll K (Bar M U) H v x) : RpAll K (Bar M' U) H' v x := h.keep s.keep
theorem RpU.step {Z : Addr → Prop} (s : Stp M H M' H') (ap : ∀ a ∈ M, ¬ U a) {v : V} {x : D} (h : RpU K M U Z H v x) : RpU K M' U Z H' v x := by
  rcases h with h | ⟨a, e, u, q⟩
  · exact .inl (h.step s)
  · exact .inr ⟨a, e, u, q.keep s.keep fun o e => s.fr a o (fun z => ap a z u.1) e⟩
theorem SltR.step (s : Stp M H M' H') (ap : ∀ a ∈ M, ¬ U a) {sl : Slot} {o : Option V} (h : SltR K M U H sl o) : SltR K M' U H' sl o := by
  have ow : ∀ {a x}, U a → OwAt K (Bar M U) H H a x → OwAt K (Bar M' U) H' H' a x := fun {a x} u q => q.keep s.keep fun o e => s.fr a o (fun z => ap a z u) e
  cases sl with
  | no => trivial
  | sh x => obtain ⟨v, e, r⟩ := h; exact ⟨v, e, r.step s⟩
  | ow x => obtain ⟨a, e, u, q⟩ := h; exact ⟨a, e, u, ow u q⟩
  | lk x => obtain ⟨a, e, u, q⟩ := h; exact ⟨a, e, u, ow u q⟩
  | rf n =>
    obtain ⟨a, e, q⟩ := h
    refine ⟨a, ?_, q⟩
    obtain ⟨t, rfl⟩ := s.pre
    rw [List.getElem?_append_left (List.getElem?_eq_some_iff.mp e).1]
    exact e
theorem ER.step (r : ER K M U H st σ env) (s : Stp M H M' H') (so : StoOk K M' U H' st') : ER K M' U H' st' σ env :=
  ⟨so, r.len, fun i => (r.env i).step s r.sto.ap⟩
/-- one more owner -/
theorem StoOk.less (s : StoOk K M U H st) (h : ∀ a, U' a → U a) : StoOk K M U' H st :=
  ⟨s.len, s.nd, fun a m u => s.ap a m (h a u), fun n xs e => by
    obtain ⟨a, vs, h1, h2, h3⟩ := s.box n xs e
    exact ⟨a, vs, h1, h2, h3.keep fun b o nb e => ⟨e, fun z => nb (z.elim .inl fun z => .inr (h b z))⟩⟩, fun a u => s.tr a (h a u)⟩

/-! ### what a reading wants -/
def EPost (K : PySem.W.Frag) (M : List Addr) (U : Addr → Prop) (H : Hp) (st' : Sto) (w : Vl) (Q : VK) : Prop := match w with
  | .d x => ∀ v H' M', Stp M H M' H' → StoOk K M' U H' st' → Rp K (Bar M' U) H' v x → Q v H'
  | .fr x => ∀ a H' M', Stp M H M' H' → H a = none → StoOk K M' (fun b => U b ∨ b = a) H' st' → OwAt K (Bar M' fun b => U b ∨ b = a) H' H' a x → Q (.ref a) H'
  | .rf n => ∀ a H' M', Stp M H M' H' → StoOk K M' U H' st' → M'[n]? = some a → Q (.ref a) H'
def SemE (K : PySem.W.Frag) (f : Ev → Sto → Option (Vl × Sto)) : TE := fun σ H Q => ∃ M U st env w st', ER K M U H st σ env ∧ f env st = some (w, st') ∧ EPost K M U H st' w Q
def DPost (K : PySem.W.Frag) (M : List Addr) (U : Addr → Prop) (H : Hp) (st' : Sto) (x : D) (Q : VK) : Prop := ∀ v H' M', Stp M H M' H' → StoOk K M' U H' st' → Rp K (Bar M' U) H' v x → Q v H'
def SemD (K : PySem.W.Frag) (f : Ev → Sto → Option (D × Sto)) : TE := fun σ H Q => ∃ M U st env x st', ER K M U H st σ env ∧ f env st = some (x, st') ∧ DPost K M U H st' x Q
def BPost (K : PySem.W.Frag) (M : List Addr) (U Z : Addr → Prop) (H : Hp) (st' : Sto) (x : D) (Q : VK) : Prop := ∀ v H' M', Stp M H M' H' → StoOk K M' U H' st' → RpU K M' U Z H' v x → Q v H'
def SemBZ (z : L2.St → Ev → Addr → Prop) (K : PySem.W.Frag) (f : Ev → Sto → Option (D × Sto)) : TE := fun σ H Q => ∃ M U st env x st', ER K M U H st σ env ∧ f env st = some (x, st') ∧ BPost K M U (z σ env) H st' x Q
abbrev SemB (K : PySem.W.Frag) (f : Ev → Sto → Option (D × Sto)) : TE := SemBZ OwV K f
def SemT (K : PySem.W.Frag) (f : Ev → Sto → Option (Bool × Sto)) : TT := fun σ H Q => ∃ M U st env b st', ER K M U H st σ env ∧ f env st = some (b, st') ∧ ∀ H' M', Stp M H M' H' → StoOk K M' U H' st' → Q b H'
theorem EPost.toD {w : Vl} {x : D} {Q : VK} (tr : ∀ a, U a → ∃ o, H a = some o) (h : w.toD = some x) (q : DPost K M U H st' x Q) : EPost K M U H st' w Q := by
  cases w with
  | d y => cases h; exact q
  | fr y =>
    cases h
    intro a H' M' s ha so ow
    have na : ¬ Bar M' U a := fun z => by
      rcases z with z | z
      · exact so.ap a z (.inr rfl)
      · obtain ⟨o, e⟩ := tr a z
        rw [ha] at e; cases e
    refine q _ H' M' s (so.less fun b u => .inl u) (OwAt.rp na ?_)
    exact ow.keep (fun b o nb e => ⟨e, fun z => nb (z.elim .inl fun z => .inr (.inl z))⟩) fun _ e => e
  | rf n => cases h
end
section
variable {X : Cx} {K : PySem.W.Frag} {e : Expr}
theorem peImp {t t' : TE} (h : PE X e t) (f : ∀ σ H Q, t' σ H Q → t σ H Q) : PE X e t' := ⟨fun pins s σ H Q I q => h.run pins s σ H Q I (f σ H Q q)⟩
theorem ptImp {t t' : TT} (h : PT X e t) (f : ∀ σ H Q, t' σ H Q → t σ H Q) : PT X e t' := ⟨fun pins s σ H Q I q => h.run pins s σ H Q I (f σ H Q q)⟩
theorem semD_of {f : Ev → Sto → Option (Vl × Sto)} (h : PE X e (SemE K f)) : PE X e (SemD K fun env st => toD (f env st)) := peImp h fun σ H Q ⟨M, U, st, env, x, st', er, ex, q⟩ => by
  obtain ⟨w, s, h1, h2⟩ := bnd_eq ex
  cases hw : w.toD with
  | none => rw [hw] at h2; cases h2
  | some y =>
    rw [hw] at h2
    cases h2
    exact ⟨M, U, st, env, w, _, er, h1, EPost.toD er.sto.tr hw q⟩
theorem semB_of {z : L2.St → Ev → Addr → Prop} {f : Ev → Sto → Option (D × Sto)} (h : PE X e (SemD K f)) : PE X e (SemBZ z K f) := peImp h fun σ H Q ⟨M, U, st, env, x, st', er, ex, q⟩ =>
  ⟨M, U, st, env, x, st', er, ex, fun v H' M' s so r => q v H' M' s so (.inl r)⟩
/-! ### operators by values -/
/-- what an operator leaves: the heap grown -/
def OPost (K : PySem.W.Frag) (B : Addr → Prop) (H : Hp) (w : Vl) (Q : VK) : Prop := match w with
  | .d x => ∀ v H', (∀ a o, H a = some o → H' a = some o) → Rp K B H' v x → Q v H'
  | .fr x => ∀ a H', (∀ a o, H a = some o → H' a = some o) → H a = none → OwAt K B H H' a x → Q (.ref a) H'
  | .rf _ => False
theorem EPost.op {M M1 : List Addr} {U : Addr → Prop} {H H1 : Hp} {st : Sto} {w : Vl} {Q : VK} (q : EPost K M U H st w Q) (s : Stp M H M1 H1) (so : StoOk K M1 U H1 st) (hw : ∀ n, w ≠ .rf n) : OPost K (Bar M1 U) H1 w Q := by
  cases w with
  | d x => exact fun v H' g r => q v H' M1 (s.trans (Stp.grow g)) (so.grow g) r
  | fr x =>
    intro a H' g ha ow
    have nM : a ∉ M1 := fun z => by
      obtain ⟨o, e⟩ := so.tracked a (.inl z)
      rw [ha] at e; cases e
    have nM0 : a ∉ M := fun z => nM (s.mem z)
    have kp : Keep (Bar M1 U) (Bar M1 fun b => U b ∨ b = a) H1 H' := fun b o nb e => ⟨g b o e, fun z => by
      rcases z with z | z | z
      · exact nb (.inl z)
      · exact nb (.inr z)
      · subst z; rw [ha] at e; cases e⟩
    refine q a H' M1 (s.trans (Stp.grow g)) (s.none_of nM0 ha) ⟨so.len, so.nd, fun b m z => ?_, fun n xs e => ?_, fun b z => ?_⟩ ?_
    · rcases z with z | z
      · exact so.ap b m z
      · subst z; exact nM m
    · obtain ⟨b, vs, h1, h2, h3⟩ := so.box n xs e
      exact ⟨b, vs, h1, g _ _ h2, h3.keep kp⟩
    · rcases z with z | z
      · obtain ⟨o, e⟩ := so.tr b z
        exact ⟨o, g _ _ e⟩
      · subst z; exact ow.some
    · cases x with
      | list xs => obtain ⟨vs, e, r⟩ := ow; exact ⟨vs, e, r.keep kp⟩
      | dict ds =>
        rcases ow with ⟨vs, e, r⟩ | ⟨vs, es, q, e, r⟩
        · exact .inl ⟨vs, e, r.keep kp⟩
        · exact .inr ⟨vs, es, q, e, r.keep kp⟩
      | none => exact ow.elim
      | bool b => exact ow.elim
      | int b => exact ow.elim
      | str b => exact ow.elim
      | tuple b => exact ow.elim
  | rf n => exact absurd rfl (hw n)
/-- a rule for an operator of two trees -/
def rOp (K : PySem.W.Frag) (f : D → D → Option Vl) : R2 := fun v u H Q => ∃ B x y w, (∀ a, B a → ∃ o, H a = some o) ∧ RpW K B H v x ∧ RpW K B H u y ∧ f x y = some w ∧ OPost K B H w Q
def rFn (K : PySem.W.Frag) (f : D → Option Vl) : V → Hp → VK → Prop := fun v H Q => ∃ B x w, (∀ a, B a → ∃ o, H a = some o) ∧ RpW K B H v x ∧ f x = some w ∧ OPost K B H w Q
def NoRf (w : Vl) : Prop := ∀ n, w ≠ .rf n
theorem sem_op {fa fb : Ev → Sto → Option (D × Sto)} {f : D → D → Option Vl} (nf : ∀ x y w, f x y = some w → NoRf w) (σ : L2.St) (H : Hp) (Q : VK)
    (h : SemE K (fun env st => bnd (fa env st) fun x s => bnd (fb env s) fun y s' => ret (f x y) s') σ H Q) : tOp (rOp K f) (SemB K fa) (SemB K fb) σ H Q := by
  obtain ⟨M, U, st, env, w, st', er, ex, q⟩ := h
  obtain ⟨x, s, e1, ex⟩ := bnd_eq ex
  obtain ⟨y, s', e2, ex⟩ := bnd_eq ex
  obtain ⟨w', e3, ex⟩ := Option.map_eq_some_iff.mp ex
  cases ex
  refine ⟨M, U, st, env, x, s, er, e1, fun v H1 M1 s1 so1 r1 => ⟨M1, U, s, env, y, _, er.step s1 so1, e2, fun u H2 M2 s2 so2 r2 => ?_⟩⟩
  exact ⟨Bar M2 U, x, y, w, so2.tracked, (r1.step s2 so1.ap).w, r2.w, e3, EPost.op q (s1.trans s2) so2 (nf _ _ _ e3)⟩
theorem sem_fn {fa : Ev → Sto → Option (D × Sto)} {f : D → Option Vl} (nf : ∀ x w, f x = some w → NoRf w) (σ : L2.St) (H : Hp) (Q : VK)
    (h : SemE K (fun env st => bnd (fa env st) fun x s => ret (f x) s) σ H Q) : tUn (rFn K f) (SemB K fa) σ H Q := by
  obtain ⟨M, U, st, env, w, st', er, ex, q⟩ := h
  obtain ⟨x, s, e1, ex⟩ := bnd_eq ex
  obtain ⟨w', e3, ex⟩ := Option.map_eq_some_iff.mp ex
  cases ex
  exact ⟨M, U, st, env, x, _, er, e1, fun v H1 M1 s1 so1 r1 => ⟨Bar M1 U, x, w, so1.tracked, r1.w, e3, EPost.op q s1 so1 (nf _ _ e3)⟩⟩
end
end Pi

end
section
set_option Elab.async false
set_option linter.all false
set_option maxRecDepth 100000
set_option maxHeartbeats 1000000
namespace Pi
open PySem PySem.Spec PyProof.Rows L2
section
variable {X : Cx}
theorem SL_le {n : Nat} (h : n ≤ SL) : n ≤ sizeLine := Nat.le_trans h (by decide)
theorem grow0 {H : Hp} : ∀ a o, H a = some o → H a = some o := fun _ _ h => h
theorem growN {H : Hp} {p : Addr} {o : HO} (n : H p = none) : ∀ a u, H a = some u → upd H p o a = some u := fun a u h => by
  rw [upd_ne (ne_of_none h n)]; exact h
theorem keepN {B : Addr → Prop} {H : Hp} {p : Addr} {o : HO} (tr : ∀ a, B a → ∃ o, H a = some o) (n : H p = none) : Keep B B H (upd H p o) := fun a u nb h => ⟨growN n a u h, nb⟩
theorem notB {B : Addr → Prop} {H : Hp} {p : Addr} (tr : ∀ a, B a → ∃ o, H a = some o) (n : H p = none) : ¬ B p := fun b => by
  obtain ⟨o, e⟩ := tr p b
  rw [n] at e; cases e
section
variable {K : PySem.W.Frag} {B : Addr → Prop} {H : Hp} {Q : VK}
/-- a new tuple's end -/
theorem tupEnd {vs : List V} {xs : List D} (tr : ∀ a, B a → ∃ o, H a = some o) (r : RpAll K B H vs xs) (q : OPost K B H (.d (.tuple xs)) Q) : Pk.KnQ H vs Q := fun p o n ho =>
  q _ _ (growN n) (.tup ⟨notB tr n, .inl ⟨o, ho, upd_same⟩⟩ (r.keep (keepN tr n)))
theorem lstEnd {vs : List V} {xs : List D} (r : RpAll K B H vs xs) (q : OPost K B H (.fr (.list xs)) Q) {p : Addr} (n : H p = none) : Q (.ref p) (upd H p (.lst vs)) :=
  q p _ (growN n) n ⟨vs, upd_same, r⟩
end
theorem inv_new {pins : List (Addr × Obj)} {σ : L2.St} {H : Hp} {s : Shared} {ys : List V} {its : List Value} (I : Inv X pins σ H s) (hv : Vals ys its) (hz : ys.length ≤ sizeLine) :
    Inv X pins σ (upd H s.heap.objs.size (.lst ys)) { s with heap := s.heap.push { cls := .type "list", data := .seq its.toArray } } := I.lnew (t' := s.toks) hv hz
theorem cat_lists {pins : List (Addr × Obj)} {σ : L2.St} {H : Hp} {s : Shared} {a b : Addr} {xs ys : List V} {Q : VK} (I : Inv X pins σ H s) (ha : SqL X.K H a xs) (hb : SqL X.K H b ys) (hz : xs.length + ys.length ≤ sizeLine)
    (q : ∀ p, H p = none → Q (.ref p) (upd H p (.lst (xs ++ ys)))) : wpAny (model X.prog X.w) X.A (binaryOp .Add (.ref a) (.ref b)) (EP X pins σ Q) X.xe s := by
  obtain ⟨its, r, p, _⟩ := I.list ha
  obtain ⟨its2, r2, p2, _⟩ := I.list hb
  obtain ⟨⟨c1, d1, dt1, sl1⟩, ho, hc, n, hd⟩ := p.isList
  obtain ⟨⟨c2, d2, dt2, sl2⟩, ho2, hc2, n2, hd2⟩ := p2.isList
  simp only at hc hd hc2 hd2
  subst hc hd hc2 hd2
  have l1 := r.length
  have l2 := r2.length
  refine concat_meets ⟨_, ho, rfl⟩ ⟨_, ho2, rfl⟩ noFill_list_add seq_list_add PySem.F.slot_list_add PySem.F.entry_list_add (PySem.F.args_list_add_2 _ _)
    (list_addW a b its.toArray its2.toArray n n2 d1 d2 sl1 sl2 (by rw [List.size_toArray, List.size_toArray]; omega)) ⟨ho, ho2, ?_⟩
  rw [show its.toArray ++ its2.toArray = (its ++ its2).toArray by simp]
  exact ⟨.ref _, _, inv_new I (r.append r2) (by rw [List.length_append]; omega), rfl, q _ I.fresh⟩
theorem dec2 {p : Prop} [Decidable p] {α : Type} {x y : α} (h : (if p then some x else none) = some y) : p ∧ x = y := by
  split at h
  · cases h; exact ⟨‹_›, rfl⟩
  · cases h
theorem op_addP : OpR X (binaryOp .Add) (rOp X.K addD) := by
  intro pins s σ H v u vv uu Q I rx ry ⟨B, x, y, w, tr, hx, hy, e, q⟩
  unfold addD at e
  split at e
  · cases e
    cases hx.int; cases hy.int
    exact op_add pins s σ H _ _ _ _ Q I rx ry ⟨_, _, rfl, rfl, q _ _ grow0 (.int _)⟩
  · obtain ⟨hz, e⟩ := dec2 e
    cases e
    cases hx.str; cases hy.str
    exact op_add_str pins s σ H _ _ _ _ Q I rx ry ⟨_, _, rfl, rfl, SL_le hz, q _ _ grow0 (.str _)⟩
  · obtain ⟨hz, e⟩ := dec2 e
    cases e
    obtain ⟨a, vs, rfl, ha, ra⟩ := hx.list
    obtain ⟨b, us, rfl, hb, rb⟩ := hy.list
    cases rx; cases ry
    exact cat_lists I ha hb (by rw [ra.length, rb.length]; exact SL_le hz) fun p n => lstEnd (ra.append rb) q n
  · obtain ⟨hz, e⟩ := dec2 e
    cases e
    obtain ⟨a, vs, rfl, ha, ra, wa⟩ := hx.tuple
    obtain ⟨b, us, rfl, hb, rb, wb⟩ := hy.tuple
    refine Pk.op_catK pins s σ H _ _ _ _ Q I rx ry ⟨a, b, vs, us, rfl, rfl, ha, hb, by rw [ra.length, rb.length]; exact SL_le hz, fun e => ?_, fun _ e => ?_, fun _ _ => tupEnd tr (ra.append rb) q⟩
    · subst e
      cases ra
      exact q _ _ grow0 wb
    · subst e
      cases rb
      rw [List.append_nil] at q
      exact q _ _ grow0 wa
  · cases e
theorem op_mulP : OpR X (binaryOp .Mult) (rOp X.K mulD) := by
  intro pins s σ H v u vv uu Q I rx ry ⟨B, x, y, w, tr, hx, hy, e, q⟩
  unfold mulD at e
  split at e
  · obtain ⟨hz, e⟩ := dec2 e
    cases e
    cases hx.int; cases hy.int
    rcases of_decide_eq_true hz with h | h | h
    · exact op_mul pins s σ H _ _ _ _ Q I rx ry ⟨_, _, rfl, rfl, .inl h, q _ _ grow0 (.int _)⟩
    · exact op_mul pins s σ H _ _ _ _ Q I rx ry ⟨_, _, rfl, rfl, .inr h, q _ _ grow0 (.int _)⟩
    · exact op_mulW pins s σ H _ _ _ _ Q I rx ry ⟨_, _, rfl, rfl, h, q _ _ grow0 (.int _)⟩
  · obtain ⟨hz, e⟩ := dec2 e
    cases e
    obtain ⟨h1, h2, h3, h4⟩ := of_decide_eq_true hz
    obtain ⟨a, vs, rfl, ha, ra, wa⟩ := hx.tuple
    cases hy.int
    rename_i xs k
    by_cases h1' : k = 1
    · subst h1'
      refine Pk.op_repT1 pins s σ H _ _ _ _ Q I rx ry ⟨a, vs, rfl, rfl, ha, q _ _ grow0 ?_⟩
      rw [show repD xs 1 = xs by simp [repD]]
      exact wa
    refine Pk.op_repK pins s σ H _ _ _ _ Q I rx ry ⟨a, _, vs, rfl, rfl, ha, fun e => ?_, by omega, h2, by rw [ra.length]; exact h3, tupEnd tr (ra.rep _) q⟩
    subst e
    cases ra
    exact absurd h4 (by simp)
  · rename_i z k
    obtain ⟨hz, e⟩ := dec2 e
    cases e
    obtain ⟨h1, h2, h3⟩ := of_decide_eq_true hz
    cases hx.str
    cases hy.int
    obtain ⟨t, rfl⟩ := rx
    obtain ⟨t', rfl⟩ := ry
    have hs : (SL : Nat) = 16777216 := rfl
    refine PySem.P.mul_str (by rw [decide_eq_false (by omega), decide_eq_false (by omega)] <;> rfl) (fun c1 c2 => ?_) (fun c1 c2 => ?_) ?_
    · have h4 : ((z.length : Nat) : Int) * k ≤ 16777216 := by
        have h5 : ((z.length * k.toNat : Nat) : Int) ≤ (16777216 : Nat) := Int.ofNat_le.mpr h3
        rw [Int.natCast_mul, Int.toNat_of_nonneg h1] at h5
        exact h5
      have h6 : ((z.length : Nat) : Int) ≤ (2 ^ 63 - 1) / k := Int.le_ediv_of_mul_le (by omega) (by omega)
      omega
    · unfold Builtin.Str.tooLong
      rw [sizeLine_eq]
      exact decide_eq_false (by omega)
    · have q' : ∀ H' , (∀ a o, H a = some o → H' a = some o) → Q (.str (repStr z k)) H' := fun H' g => q _ _ g (.str _)
      unfold repStr at q'
      by_cases c1 : k < 1
      · rw [if_pos c1]
        rw [if_pos c1] at q'
        exact ⟨by decide, ⟨.str Str.empty, H, I.tok _, ⟨_, rfl⟩, q' _ grow0⟩⟩
      · rw [if_neg c1]
        rw [if_neg c1] at q'
        by_cases c2 : (k == 1 || z.length == 0) = true
        · rw [if_pos c2]
          rw [if_pos c2] at q'
          exact ⟨.str z, H, I, ⟨_, rfl⟩, q' _ grow0⟩
        · rw [if_neg c2]
          rw [if_neg c2] at q'
          refine ⟨?_, ⟨.str _, H, I.tok _, ⟨_, rfl⟩, q' _ grow0⟩⟩
          exact fits_reps (by unfold Builtin.Str.tooLong; rw [sizeLine_eq]; exact decide_eq_false (by omega))
  · cases e
theorem bin_ints {b : Bop} {f : Int → Int → Option Vl} {x y : D} {w : Vl} (h : (binD b x y = match x, y with | .int i, .int j => f i j | _, _ => none)) (e : binD b x y = some w) : ∃ i j, x = .int i ∧ y = .int j ∧ f i j = some w := by
  rw [h] at e
  split at e
  · exact ⟨_, _, rfl, rfl, e⟩
  · cases e
theorem op_binP {op : Operator} {b : Bop} (h : op = (match b with | .add => .Add | .sub => .Sub | .mul => .Mult | .fdiv => .FloorDiv | .mod => .Mod | .pow => .Pow)) : OpR X (binaryOp op) (rOp X.K (binD b)) := by
  subst h
  cases b with
  | add => exact op_addP
  | mul => exact op_mulP
  | sub =>
    intro pins s σ H v u vv uu Q I rx ry ⟨B, x, y, w, tr, hx, hy, e, q⟩
    obtain ⟨i, j, rfl, rfl, e⟩ := bin_ints (f := fun i j => some (.d (.int (i - j)))) (by cases x <;> cases y <;> rfl) e
    cases e
    cases hx.int; cases hy.int
    exact op_sub pins s σ H _ _ _ _ Q I rx ry ⟨_, _, rfl, rfl, q _ _ grow0 (.int _)⟩
  | fdiv =>
    intro pins s σ H v u vv uu Q I rx ry ⟨B, x, y, w, tr, hx, hy, e, q⟩
    obtain ⟨i, j, rfl, rfl, e⟩ := bin_ints (f := fun i j => (fdivD i j).map fun k => .d (.int k)) (by cases x <;> cases y <;> rfl) e
    obtain ⟨k, e1, e⟩ := Option.map_eq_some_iff.mp e
    cases e
    cases hx.int; cases hy.int
    unfold fdivD at e1
    split at e1
    · rename_i hp
      obtain ⟨hl, e1⟩ := dec2 e1
      cases e1
      exact op_fdivW pins s σ H _ _ _ _ Q I rx ry ⟨_, _, rfl, rfl, ⟨hp, hl⟩, q _ _ grow0 (.int _)⟩
    · obtain ⟨hl, e1⟩ := dec2 e1
      cases e1
      exact op_fdivN pins s σ H _ _ _ _ Q I rx ry ⟨_, _, rfl, rfl, hl, q _ _ grow0 (.int _)⟩
  | mod =>
    intro pins s σ H v u vv uu Q I rx ry ⟨B, x, y, w, tr, hx, hy, e, q⟩
    obtain ⟨i, j, rfl, rfl, e⟩ := bin_ints (f := fun i j => (modD i j).map fun k => .d (.int k)) (by cases x <;> cases y <;> rfl) e
    obtain ⟨k, e1, e⟩ := Option.map_eq_some_iff.mp e
    cases e
    cases hx.int; cases hy.int
    unfold modD at e1
    split at e1
    · rename_i hp
      cases e1
      exact op_mod pins s σ H _ _ _ _ Q I rx ry ⟨_, _, rfl, rfl, hp, q _ _ grow0 (.int _)⟩
    · obtain ⟨hl, e1⟩ := dec2 e1
      cases e1
      exact op_modN pins s σ H _ _ _ _ Q I rx ry ⟨_, _, rfl, rfl, hl, q _ _ grow0 (.int _)⟩
  | pow =>
    intro pins s σ H v u vv uu Q I rx ry ⟨B, x, y, w, tr, hx, hy, e, q⟩
    obtain ⟨i, j, rfl, rfl, e⟩ := bin_ints (f := fun i j => (powD i j).map fun k => .d (.int k)) (by cases x <;> cases y <;> rfl) e
    obtain ⟨k, e1, e⟩ := Option.map_eq_some_iff.mp e
    cases e
    cases hx.int; cases hy.int
    obtain ⟨hl, e1⟩ := dec2 (show (if decide (0 ≤ j ∧ j ≤ 1000000 ∧ i.natAbs < 2 ^ 64) = true then some (i ^ j.toNat) else none) = some k from e1)
    cases e1
    exact op_pow pins s σ H _ _ _ _ Q I rx ry ⟨_, _, rfl, rfl, (of_decide_eq_true hl : 0 ≤ j ∧ j ≤ 1000000 ∧ i.natAbs < 2 ^ 64), q _ _ grow0 (.int _)⟩
/-! ### comparisons -/
def bV (f : D → D → Option Bool) (x y : D) : Option Vl := (f x y).map fun k => .d (.bool k)
theorem okD_of {x : D} (h : okD x = true) : x.plain = true ∧ x.depth ≤ 60 := by
  unfold okD at h
  rw [Bool.and_eq_true, decide_eq_true_eq] at h
  exact h
/-- a comparison of data by the library's rule -/
theorem op_dataP {op : CmpOp} {f : D → D → Option Bool} (hf : ∀ x y b, f x y = some b → okD x = true ∧ okD y = true)
    (rule : ∀ {s : Shared} {a c : Value} {da dc : D} {as cs : List Addr} {b : Bool} {Q : Value → Shared → Prop}, Reads s.heap a da as → Reads s.heap c dc cs → f da dc = some b → X.A.units + min da.depth dc.depth < cLine → Q (.bool b) s → wpAny (model X.prog X.w) X.A (compareOp op a c) Q X.xe s)
    (hu : X.A.units + 64 < cLine) : OpR X (compareOp op) (rOp X.K (bV f)) := by
  intro pins s σ H v u vv uu Q I rx ry ⟨B, x, y, w, tr, hx, hy, e, q⟩
  obtain ⟨k, e1, e⟩ := Option.map_eq_some_iff.mp e
  cases e
  obtain ⟨o1, o2⟩ := hf _ _ _ e1
  obtain ⟨as, r1⟩ := Dp.reads I x v vv (hx.dp (okD_of o1).1) rx
  obtain ⟨bs, r2⟩ := Dp.reads I y u uu (hy.dp (okD_of o2).1) ry
  have h1 := (okD_of o1).2
  exact rule r1 r2 e1 (by omega) ⟨.bl k, H, I, rfl, q _ _ grow0 (.bl _)⟩
theorem nn {x : D} (h : isNone x = false) : x ≠ .none := fun e => by subst e; cases h
theorem cond4 {a b c d : Bool} {x y : Bool} (h : (if (a && b && c && d) = true then some x else none) = some y) : a = true ∧ b = true ∧ c = true ∧ d = true ∧ x = y := by
  obtain ⟨h1, h2⟩ := dec2 h
  simp only [Bool.and_eq_true] at h1
  exact ⟨h1.1.1.1, h1.1.1.2, h1.1.2, h1.2, h2⟩
theorem notT {b : Bool} (h : (!b) = true) : b = false := by cases b <;> first | rfl | cases h
end
end Pi

end
section
set_option Elab.async false
set_option linter.all false
set_option maxRecDepth 100000
set_option maxHeartbeats 4000000
/-! Ps1: sets of values of any family whose members the model can hash, compare and lay. -/
namespace Ps
open PySem PySem.Spec PyProof.Rows L2
/-- an item of a set: its value and what it stands for -/
abbrev It (α : Type) := Value × α
/-- a set's object holds the items L, in the order of its table -/
structure Holds {α : Type} (is : Heap → α → Value → Prop) (hs : α → Int) (w : World) (h : Heap) (a : Addr) (L : List (It α)) (es : Array (Int × Value)) (ep : Nat) (t : SetTable) : Prop where
  obj : ∃ o, h.get? a = some o ∧ o.ExactSet ∧ o.data = .set es ep t
  lay : es.toList = L.map fun p => (hs p.2, p.1)
  once : (L.map (·.2)).Nodup
  mem : ∀ p ∈ L, is h p.2 p.1
  fit : t.fits es.size = true
  up : Ris t.place.toList
  led : w.params.followText "set-order" = true ∨ t.led = true
  few : L.length < 64
/-- a family of values -/
structure Fam (P : Program) (w : World) (α : Type) [DecidableEq α] where
  is : Heap → α → Value → Prop
  hs : α → Int
  ok : SetTable → List Int → Prop
  grow : ∀ {h h' : Heap} {k : α} {v : Value}, is h k v → (∀ c o, h.get? c = some o → h'.get? c = some o) → is h' k v
  one : ∀ {h : Heap} {k k' : α} {v : Value}, is h k v → is h k' v → k = k'
  ok0 : ∀ led : Bool, ok (.fresh 0 0 led) []
  hash : ∀ {A : Around} {E : Value → Shared → Prop} {s : Shared} {k : α} {v : Value} {Q : Int → Shared → Prop}, A.units < cLine → is s.heap k v → (∀ tk, s.toks ≤ tk → Q (hs k) { s with toks := tk }) → wpAny (model P w) A (pyHash v) Q E s
  add : ∀ {A : Around} {E : Value → Shared → Prop} {s : Shared} {a : Addr} {L : List (It α)} {es : Array (Int × Value)} {ep : Nat} {t : SetTable} {k : α} {v : Value} {Q : Bool → Shared → Prop}, A.units < cLine →
    Holds is hs w s.heap a L es ep t → ok t (L.map fun p => hs p.2) → is s.heap k v → L.length + 1 < 64 →
    (∀ b h' L' es' ep' t', Heap.SameBut a s.heap h' → Holds is hs w h' a L' es' ep' t' → ok t' (L'.map fun p => hs p.2) → (k ∈ L.map (·.2) → L' = L) → (k ∉ L.map (·.2) → L'.Perm ((v, k) :: L)) → Q b { s with heap := h' }) →
    wpAny (model P w) A (setAddHashed a v (hs k)) Q E s
section
variable {P : Program} {w : World} {α : Type} [DecidableEq α]
/-- the set at a, with its table -/
def Fam.At (Φ : Fam P w α) (h : Heap) (a : Addr) (L : List (It α)) : Prop := ∃ es ep t, Holds Φ.is Φ.hs w h a L es ep t ∧ Φ.ok t (L.map fun p => Φ.hs p.2)
theorem Fam.At.grow {Φ : Fam P w α} {h h' : Heap} {a : Addr} {L : List (It α)} (x : Φ.At h a L) (ha : ∀ o, h.get? a = some o → h'.get? a = some o) (hm : ∀ p ∈ L, Φ.is h' p.2 p.1) : Φ.At h' a L := by
  obtain ⟨es, ep, t, r, k⟩ := x
  obtain ⟨o, e, z⟩ := r.obj
  exact ⟨es, ep, t, ⟨⟨o, ha o e, z⟩, r.lay, r.once, hm, r.fit, r.up, r.led, r.few⟩, k⟩
abbrev bare (w : World) : Obj := { cls := .type "set", dict := none, data := .set #[] 0 (.fresh 0 0 (!w.params.followText "set-order")) }
theorem Fam.new (Φ : Fam P w α) {h : Heap} {a : Addr} (e : h.get? a = some (bare w)) : Φ.At h a [] := by
  refine ⟨#[], 0, _, ⟨⟨_, e, ⟨rfl, rfl, rfl⟩, rfl⟩, rfl, .nil, fun p z => (by cases z), rfl, .nil, ?_, (show 0 < 64 by decide)⟩, Φ.ok0 _⟩
  show _ ∨ (!w.params.followText "set-order") = true
  cases w.params.followText "set-order" <;> simp
/-- what the first items have left: members of theirs, each key of theirs -/
structure Part (xs : List (It α)) (L : List (It α)) : Prop where
  inn : ∀ p ∈ L, p ∈ xs
  all : ∀ p ∈ xs, p.2 ∈ L.map (·.2)
theorem Part.old {xs L : List (It α)} {x : It α} (g : Part xs L) (h : x.2 ∈ L.map (·.2)) : Part (xs ++ [x]) L :=
  ⟨fun p z => List.mem_append_left _ (g.inn p z), fun p z => (List.mem_append.mp z).elim (g.all p) fun z => by rw [List.mem_singleton.mp z]; exact h⟩
theorem Part.new {xs L L' : List (It α)} {x : It α} (g : Part xs L) (pm : L'.Perm (x :: L)) : Part (xs ++ [x]) L' := by
  have pk : (L'.map (·.2)).Perm (x.2 :: L.map (·.2)) := pm.map (·.2)
  refine ⟨fun p z => ?_, fun p z => pk.mem_iff.mpr ?_⟩
  · rcases List.mem_cons.mp (pm.mem_iff.mp z) with z | z
    · rw [z]; simp
    · exact List.mem_append_left _ (g.inn p z)
  · rcases List.mem_append.mp z with z | z
    · exact List.mem_cons_of_mem _ (g.all p z)
    · rw [List.mem_singleton.mp z]; exact List.mem_cons_self
/-- the turns of set.update -/
theorem Fam.turns (Φ : Fam P w α) {A : Around} {I S : Addr} {fp wr : List Addr} {G : Array GenState → Array GenState → Prop} {n : Nat} {Pv : Nat → Value → Prop} {St : Nat → Shared → Prop} {R : Result → Shared → Prop}
    (W : WalksS P w A.in1 I fp wr G n Pv St) (nS : S ∉ fp) (xs : List (It α)) (hn : n = xs.length) (hfew : xs.length < 64) (hv : ∀ i v, Pv i v → ∃ k, xs[i]? = some (v, k))
    (h0 : Heap) (hx : ∀ p ∈ xs, Φ.is h0 p.2 p.1) (z0 : h0.get? S = none) (zw : ∀ b ∈ wr, h0.get? b = none) (hu : A.in1.units < cLine) :
    ∀ (m i : Nat) (s : Shared) (L : List (It α)), i + m = n → St i s → (∀ b o, h0.get? b = some o → s.heap.get? b = some o) → Φ.At s.heap S L → Part (xs.take i) L → L.length ≤ i →
      (∀ s' L', Moved (S :: wr) G s s' → Φ.At s'.heap S L' → Part xs L' → (∀ b o, h0.get? b = some o → s'.heap.get? b = some o) → R (.ok (.ret .none)) s') →
      codeAny (model P w) A (.builtin "set.update.loop" ⟨[.ref S, .ref I], []⟩) R s := by
  have Sw : S ∉ wr := fun z => nS (W.sub _ z)
  have wide : ∀ {s s' : Shared}, Moved wr G s s' → Moved (S :: wr) G s s' := fun q => q.mono fun b hb => List.mem_cons_of_mem _ hb
  have still : ∀ {s s' : Shared}, Moved wr G s s' → (∀ b o, h0.get? b = some o → s.heap.get? b = some o) → ∀ b o, h0.get? b = some o → s'.heap.get? b = some o := fun q k b o e =>
    q.heap b o (fun hb => by rw [zw b hb] at e; cases e) (k b o e)
  have later : ∀ {s s' : Shared} {L : List (It α)} {i : Nat}, Moved wr G s s' → (∀ b o, h0.get? b = some o → s.heap.get? b = some o) → Φ.At s.heap S L → Part (xs.take i) L → Φ.At s'.heap S L := fun {s s' L i} q k x g =>
    x.grow (fun o e => q.heap S o Sw e) fun p hp => Φ.grow (hx p (List.mem_of_mem_take (g.inn p hp))) (still q k)
  intro m
  induction m with
  | zero =>
    intro i s L e st k x g _ hR
    have hi : i = n := by omega
    subst hi
    refine codeAny_builtin F.entry_set_update_loop ?_
    rw [Around.under_plainId F.plain_set_update_loop _]
    show wpAny _ A.in1 (pyNext (.ref I) >>= _) _ _ s
    refine wpAny_bind (W.done s _ _ st fun s' q => ?_)
    rw [hn, List.take_length] at g
    exact wpAny_pure (hR s' L (wide q) (later (i := i) q k x (by rw [hn, List.take_length]; exact g)) g (still q k))
  | succ m ih =>
    intro i s L e st k x g len hR
    have hi : i < n := by omega
    refine codeAny_builtin F.entry_set_update_loop ?_
    rw [Around.under_plainId F.plain_set_update_loop _]
    show wpAny _ A.in1 (pyNext (.ref I) >>= _) _ _ s
    refine wpAny_bind (W.item i s _ _ hi st fun v s' hP st' q => ?_)
    obtain ⟨key, hk⟩ := hv i v hP
    have k' := still q k
    have x' := later q k x g
    have vx : Φ.is s'.heap key v := Φ.grow (hx _ (List.mem_of_getElem? hk)) k'
    show wpAny _ A.in1 (holding [v] (setAdd S v) >>= _) _ _ s'
    refine wpAny_bind (wpAny_holding ?_)
    unfold setAdd
    refine wpAny_holding (wpAny_bind (Φ.hash hu vx fun tk htk => ?_))
    obtain ⟨es, ep, t, r, okt⟩ := x'
    refine Φ.add (s := { s' with toks := tk }) hu r okt vx (by omega) fun b h' L' es' ep' t' sb r' okt' c1 c2 => ?_
    have tk1 : xs.take (i + 1) = xs.take i ++ [(v, key)] := by rw [List.take_succ, hk]; rfl
    have g' : Part (xs.take (i + 1)) L' ∧ L'.length ≤ i + 1 := by
      rw [tk1]
      by_cases c : key ∈ L.map (·.2)
      · rw [c1 c]; exact ⟨g.old c, by omega⟩
      · exact ⟨g.new (c2 c), by rw [(c2 c).length_eq, List.length_cons]; omega⟩
    have k2 : ∀ c o, h0.get? c = some o → h'.get? c = some o := fun c o e => (sb.2 c fun z => by rw [z, z0] at e; cases e).trans (k' c o e)
    refine wpAny_pure ⟨plainId_quiet F.plain_set_update_loop _, ih (i + 1) _ L' (by omega) (W.frame _ s' _ _ st' htk fun c hc o e => (sb.2 c fun z => nS (z ▸ hc)).trans e) k2 ⟨es', ep', t', r', okt'⟩ g'.1 g'.2 fun s2 L2 q2 x2 g2 k3 => ?_⟩
    refine hR s2 L2 (Moved.trans W.gtrans ((wide q).then_heap htk fun c o hc e => ?_) q2) x2 g2 k3
    exact (sb.2 c fun z => hc (z ▸ List.mem_cons_self)).trans e
end
end Ps

end
section
set_option Elab.async false
set_option linter.all false
set_option maxRecDepth 100000
set_option maxHeartbeats 4000000
namespace Ps
open PySem PySem.Spec PyProof.Rows L2
section
variable {P : Program} {w : World} {α : Type} [DecidableEq α] {A : Around} {E : Value → Shared → Prop} {s : Shared}
theorem free_of (h : Heap) {b : Addr} (e : h.objs.size ≤ b) : h.get? b = none := by
  cases q : h.get? b with
  | none => rfl
  | some o => exact absurd (Heap.lt_size q) (Nat.not_lt.mpr e)
/-- set(xs), xs a list -/
theorem Fam.callSet (Φ : Fam P w α) {l : Addr} {items : Array Value} (xs : List (It α)) {Q : Value → Shared → Prop} (hh : A.handled = none) (hl : s.heap.IsList l items) (hit : items.toList = xs.map (·.1))
    (hx : ∀ p ∈ xs, Φ.is s.heap p.2 p.1) (hfew : xs.length < 64) (hu : A.units + 3 < cLine)
    (h : ∀ (h' : Heap) (tk : Nat) L, Φ.At h' s.heap.objs.size L → Part xs L → (∀ b o, s.heap.get? b = some o → h'.get? b = some o) → Q (.ref s.heap.objs.size) { s with heap := h', toks := tk }) :
    wpAny (model P w) A (call (.type "set") [.ref l]) Q E s := by
  have sz : items.size = xs.length := by rw [← Array.length_toList, hit, List.length_map]
  obtain ⟨c, tl, hmro⟩ := F.called_set.mro
  have hmade := F.called_set.made
  have hsub := F.called_set.sub
  have h1 := F.called_set.notType
  have h2 := F.called_set.canCreate
  have hct := F.typeCall_set_1 (.ref l)
  refine wpAny_call (codeAny_of_tree ?_)
  show wpAny _ _ (callAny (.type "set") _) _ _ _
  refine wpAny_pure ⟨Code.quiet_builtin _ (by decide +kernel), codeAny_builtin F.entry_type_call ?_⟩
  rw [Around.under_plain (weight_type_call_type "set" [.ref l] []) rfl]
  repeat (any_goals (first | assumption | wp_step))
  refine codeAny_mono (code_set_led1 (.ref l) (E := E) (Q₁ := fun v s1 => v = .ref s.heap.objs.size ∧ s1 = { s with heap := s.heap.push (bare w) }) ⟨rfl, rfl⟩) fun r s1 hr => ?_
  cases r with
  | error e => exact hr
  | ok fl =>
    cases fl with
    | ret v =>
      obtain ⟨rfl, rfl⟩ := hr
      have eS : (s.heap.push (bare w)).get? s.heap.objs.size = some (bare w) := Heap.get?_push_size _ rfl
      have hT : Shared.TypeIs { s with heap := s.heap.push (bare w) } (.ref s.heap.objs.size) "set" := ⟨_, eS, rfl⟩
      have hli := F.called_set.init.lookup
      have hbi := F.called_set.init.bind (.ref s.heap.objs.size)
      repeat (any_goals (first | assumption | wp_step))
      refine codeAny_mono (codeAny_call_builtin (R := wants (fun r s2 => r = .none ∧ ∃ h' tk L, s2 = { s with heap := h', toks := tk } ∧ Φ.At h' s.heap.objs.size L ∧ Part xs L ∧ ∀ b o, s.heap.get? b = some o → h'.get? b = some o) E)
        F.called_set.init.plain F.entry_set_init (check_set_init_1 hT ?_)) fun r2 s2 hr2 => ?_
      · obtain ⟨ol, eol, cl, nl, dl⟩ := hl
        obtain ⟨oc, od, oda, os⟩ := ol
        simp only at cl dl
        subst cl; subst dl
        have eol' : (s.heap.push (bare w)).get? l = some { cls := .type "list", dict := od, data := .seq items nl, slots := os } := Heap.get?_push_of_some _ eol
        have isl : (s.heap.push (bare w)).IsList l items := ⟨_, eol', rfl, nl, rfl⟩
        have q1 := F.sub_list_set
        have q2 := F.sub_list_frozenset
        have q3 : (Value.type "list" == Value.type "dict") = false := by decide
        unfold Builtin.«set.__init__» noKeywords Builtin.Frozenset.updateFrom
        generalize gPI : pyIter = PI
        wp_walk
        subst gPI
        refine wpAny_pyIter_list isl (wpAny_bind (wpAny_runValue ?_))
        have lS : l < s.heap.objs.size := Heap.lt_size eol
        have size1 : (s.heap.push (bare w)).objs.size = s.heap.objs.size + 1 := Heap.size_push ..
        have hh3 : A.in1.in1.in1.handled = none := by simp [hh]
        have lI : l ≠ (s.heap.push (bare w)).objs.size := by rw [size1]; exact Nat.ne_of_lt (Nat.lt_succ_of_lt lS)
        have nS : s.heap.objs.size ∉ [(s.heap.push (bare w)).objs.size, l] := by
          rw [size1]
          simp only [List.mem_cons, List.mem_singleton, List.not_mem_nil, or_false, not_or]
          exact ⟨Nat.ne_of_lt (Nat.lt_succ_self _), Nat.ne_of_gt lS⟩
        have val : ∀ (i : Nat) (v : Value), items[i]? = some v → ∃ k, xs[i]? = some (v, k) := fun i v hv => by
          rw [← Array.getElem?_toList, hit, List.getElem?_map] at hv
          obtain ⟨p, e1, e2⟩ := Option.map_eq_some_iff.mp hv
          exact ⟨p.2, by rw [e1, ← e2]⟩
        refine Φ.turns ((Walks.list hh3 _ l lI items).toS) nS xs sz hfew val s.heap hx (free_of _ (Nat.le_refl _)) (fun b hb => free_of _ (by rw [List.mem_singleton.mp hb, size1]; omega)) hu
          items.size 0 _ [] (Nat.zero_add _) ⟨⟨_, Heap.get?_push_size _ rfl, rfl, rfl⟩, isl.push _⟩ (fun b o e => Heap.get?_push_of_some _ (Heap.get?_push_of_some _ e)) (Φ.new (Heap.get?_push_of_some _ eS)) ⟨fun p z => (by cases z), fun p z => (by cases z)⟩ (Nat.zero_le _) ?_
        intro s' L hm x g k
        obtain ⟨h', g', d', tk', os'⟩ := s'
        have eg : g' = s.gens := hm.gens
        have ed : d' = s.drawn := hm.drawn
        have eo : os' = s.os := hm.os
        subst eg; subst ed; subst eo
        show wpAny _ _ _ _ _ _
        refine wpAny_pure ?_
        show wpAny _ _ (ret Value.none) _ _ _
        exact wpAny_pure ⟨rfl, h', tk', L, rfl, x, g, k⟩
      · cases r2 with
        | error e => exact hr2
        | ok f2 =>
          cases f2 with
          | ret r =>
            obtain ⟨rfl, h', tk, L, rfl, x, g, k⟩ := hr2
            repeat (any_goals (first | assumption | wp_step))
            exact h _ _ _ x g k
          | _ => exact hr2.elim
    | _ => exact hr.elim
/-- sorted(set), the members data that compare -/
theorem Fam.sortSet (Φ : Fam P w α) {a : Addr} {L : List (It α)} {Q : Value → Shared → Prop} (x : Φ.At s.heap a L) (hh : A.handled = none) (enc : α → PyData)
    (rd : ∀ (h : Heap), (∀ b o, s.heap.get? b = some o → h.get? b = some o) → ∀ p ∈ L, ∃ as, Reads h p.1 (enc p.2) as ∧ ∀ c ∈ as, c < s.heap.objs.size)
    (hal : W.AllAlike (L.map fun p => enc p.2)) (hk : W.Sortable (L.map fun p => enc p.2)) (hu : ∀ p ∈ L, A.units + 4 + (enc p.2).depth < cLine)
    (hQ : ∀ s' p (out : Array Value) (c : Nat) (L' : List (It α)), (∀ b o, s.heap.get? b = some o → s'.heap.get? b = some o) → s'.gens = s.gens → s'.os = s.os → s.heap.objs.size ≤ p →
      s'.heap.get? p = some (seqObj "list" out c) → out.toList = L'.map (·.1) → L'.Perm L → L'.Pairwise (fun q r => W.dataLe false enc q.2 r.2 = true) → Q (.ref p) s') :
    wpAny (model P w) A (call (.builtin "sorted") [.ref a]) Q E s := by
  obtain ⟨es, ep, t, r, _⟩ := x
  obtain ⟨o, ho, hex, hd⟩ := r.obj
  have hes : es.size = L.length := by rw [← Array.length_toList, r.lay, List.length_map]
  have few := r.few
  refine Calls.call_function_entry kind_sorted plain_sorted entry_sorted (args_sorted1 _) ?_
  unfold Builtin.«sorted»
  refine wpAny_bind (m := checkCount "sorted" 1 1 _) (wpAny_pure ?_)
  refine wpAny_bind (collect_set (A := A.in1) hh ⟨o, ho, hex.1, hd⟩ r.fit (by unfold scanBound; omega) r.up r.led fun s1 vs k1 hz g1 o1 pm => ?_)
  rw [r.lay, List.map_map] at pm
  have pm : vs.Perm (L.map (·.1)) := pm
  -- the members in the order in which they were gathered
  obtain ⟨L1, e1, p1⟩ : ∃ L1 : List (It α), vs = L1.map (·.1) ∧ L1.Perm L := by
    have key : ∀ (vs : List Value) (L : List (It α)), vs.Perm (L.map (·.1)) → ∃ L1 : List (It α), vs = L1.map (·.1) ∧ L1.Perm L := by
      intro vs
      induction vs with
      | nil =>
        intro L pm
        have : L = [] := List.map_eq_nil_iff.mp (List.Perm.eq_nil pm.symm)
        exact ⟨[], rfl, by rw [this]⟩
      | cons v vs ih =>
        intro L pm
        obtain ⟨p, hp, e⟩ := List.mem_map.mp (pm.mem_iff.mp List.mem_cons_self)
        obtain ⟨a1, a2, rfl⟩ := List.append_of_mem hp
        have pm2 : vs.Perm ((a1 ++ a2).map (·.1)) := by
          have q : (v :: vs).Perm (v :: (a1 ++ a2).map (·.1)) := pm.trans (by
            rw [← e, List.map_append, List.map_cons, List.map_append]
            exact List.perm_middle)
          exact q.cons_inv
        obtain ⟨L1, e2, p2⟩ := ih _ pm2
        exact ⟨p :: L1, by rw [List.map_cons, e, e2], (p2.cons p).trans List.perm_middle.symm⟩
    exact key vs L pm
  have hvl : vs.length = L.length := by rw [e1, List.length_map, p1.length_eq]
  refine wpAny_bind (wpAny_newList ?_ (by rw [sizeLine_eq]; omega))
  have hoL : (s1.heap.push (seqObj "list" vs.toArray 0)).get? s1.heap.objs.size = some (seqObj "list" vs.toArray 0) := Heap.get?_push_size _ rfl
  have each : ∀ (R : Value → It α → Prop) (M : List (It α)), (∀ p ∈ M, R p.1 p) → W.EachIs R (M.map (·.1)) M := by
    intro R M
    induction M with
    | nil => exact fun _ => .nil
    | cons p M ih => exact fun hM => .cons (hM p List.mem_cons_self) (ih fun q hq => hM q (List.mem_cons_of_mem _ hq))
  have eq1 : (L1.map fun p => enc p.2).Perm (L.map fun p => enc p.2) := p1.map _
  refine wpAny_bind (wpAny_holding (W.list_sort_data (s := { s1 with heap := s1.heap.push (seqObj "list" vs.toArray 0) }) (enc := fun p : It α => enc p.2) (bs := L1) (R := fun v p => v = p.1) hoL (by rw [e1]; exact each _ _ fun _ _ => rfl)
    (by
      rw [e1]
      refine each _ _ fun p hp => ?_
      obtain ⟨as, ra, na⟩ := rd (s1.heap.push (seqObj "list" vs.toArray 0)) (fun b o e => Heap.get?_push_of_some _ (k1 b o e)) p (p1.mem_iff.mp hp)
      rw [← e1]
      exact ⟨as, ra, fun z => Nat.lt_irrefl _ (Nat.lt_of_lt_of_le (na _ z) hz)⟩)
    (fun d hd d' hd' => hal d (eq1.mem_iff.mp hd) d' (eq1.mem_iff.mp hd')) ?_ (by rw [p1.length_eq, sizeLine_eq]; omega) (fun p hp => ?_) fun out l1 l2 => ?_))
  · rcases hk with hk | hk
    · exact .inl fun d hd => hk d (eq1.mem_iff.mp hd)
    · exact .inr fun d hd => hk d (eq1.mem_iff.mp hd)
  · have := hu p (p1.mem_iff.mp hp)
    show A.units + 1 + 1 + (enc p.2).depth < cLine
    omega
  · obtain ⟨c, hc⟩ := sortedHeap_at (vs := vs) (out := out.toArray) hoL
    have out_eq : ∀ {us : List Value} {M : List (It α)}, W.EachIs (fun v p => v = p.1) us M → us = M.map (·.1) := by
      intro us M hM
      induction hM with
      | nil => rfl
      | cons h _ ih => rw [List.map_cons, h, ih]
    refine wpAny_pure ⟨_, rfl, hQ _ s1.heap.objs.size out.toArray c _ (fun b u e => ?_) g1 o1 hz hc (by simpa using out_eq l2) ((List.mergeSort_perm _ _).trans p1) ?_⟩
    · have q := k1 b u e
      have hlt := Heap.lt_size q
      show (sortedHeap (s1.heap.push (seqObj "list" vs.toArray 0)) s1.heap.objs.size vs out.toArray).get? b = some u
      rw [sortedHeap_old (Nat.ne_of_lt hlt) (by rw [size_push']; exact Nat.lt_succ_of_lt hlt)]
      exact Heap.get?_push_of_some _ q
    · have tot : W.TotalLe (W.dataLe false fun p : It α => enc p.2) := W.sortLe_total _ _ _
      exact W.sort_pairwise tot L1
end
end Ps

end
section
set_option Elab.async false
set_option linter.all false
set_option maxRecDepth 100000
set_option maxHeartbeats 4000000
namespace Ps
open PySem PySem.Spec PyProof.Rows L2
/-- a rearranged image is the image of a rearrangement -/
theorem permLift {α β : Type} (f : α → β) : ∀ (xs : List β) (L : List α), xs.Perm (L.map f) → ∃ M : List α, xs = M.map f ∧ M.Perm L
  | [], L, pm => ⟨[], rfl, by rw [List.map_eq_nil_iff.mp (List.Perm.eq_nil pm.symm)]⟩
  | x :: xs, L, pm => by
    obtain ⟨p, hp, e⟩ := List.mem_map.mp (pm.mem_iff.mp List.mem_cons_self)
    obtain ⟨a, b, rfl⟩ := List.append_of_mem hp
    have q : (x :: xs).Perm (x :: (a ++ b).map f) := pm.trans (by
      rw [← e, List.map_append, List.map_cons, List.map_append]
      exact List.perm_middle)
    obtain ⟨M, e2, p2⟩ := permLift f xs (a ++ b) q.cons_inv
    exact ⟨p :: M, by rw [List.map_cons, e, e2], (p2.cons p).trans List.perm_middle.symm⟩
section
variable {P : Program} {w : World} {A : Around} {E : Value → Shared → Prop} {s : Shared} {a : Addr} {es : Array (Int × Value)} {ep : Nat} {t : SetTable}
/-! ### keys: whole numbers and texts -/
abbrev isK (_ : Heap) (k : Key) (v : Value) : Prop := keyIs k v = true
theorem keyScan {k : Key} {v : Value} (h : keyIs k v = true) : v.scannable = true := by
  rcases keyIs_shape h with ⟨i, t, rfl, rfl⟩ | ⟨x, t, rfl, rfl⟩ <;> rfl
theorem Holds.elems {L : List (It Key)} (r : Holds isK (keyH w) w s.heap a L es ep t) : ElemsOf (mixKind P w) es.toList := fun e he => by
  rw [r.lay] at he
  obtain ⟨p, hp, rfl⟩ := List.mem_map.mp he
  exact ⟨⟨p.2, r.mem p hp, rfl⟩, keyScan (r.mem p hp)⟩
/-- the set's object behind a change -/
theorem store_obj {o : Obj} {es' : Array (Int × Value)} {t' : SetTable} (ho : s.heap.get? a = some o) (hex : o.ExactSet) (hd : o.data = .set es ep t) :
    ∃ o', (s.heap.update a (Obj.putSet es' t')).get? a = some o' ∧ o'.ExactSet ∧ o'.data = .set es' (ep + 1) t' := ⟨_, store_at ho hd, ⟨hex.1, hex.2.1, hex.2.2⟩, rfl⟩
theorem key_tail {g : Bool → Sem Unit} (hg : ∀ (b : Bool) (s1 : Shared) (Q : Unit → Shared → Prop), Q () s1 → wpAny (model P w) A (g b) Q E s1)
    {o : Obj} (ho : s.heap.get? a = some o) (hex : o.ExactSet) (hd : o.data = .set es ep t) {es1 : Array (Int × Value)} {t2 : SetTable} {M : List (It Key)} (hl : es1.toList = M.map fun p => (keyH w p.2, p.1)) (nd : (M.map (·.2)).Nodup) (mm : ∀ p ∈ M, keyIs p.2 p.1 = true)
    (few : M.length < 64) (fit : t2.fits es1.size = true) (up : Ris t2.place.toList) (led : w.params.followText "set-order" = true ∨ t2.led = true) {wd : Bool} {R : Option Bool → Shared → Prop}
    (hR : ∀ h' L' es' ep' t', Heap.SameBut a s.heap h' → Holds isK (keyH w) w h' a L' es' ep' t' → L'.Perm M → R (some true) { s with heap := h' }) :
    wpAny (model P w) A (do
        storeSet a es1 t2
        if (!wd && t2.tooFull) = true then do
            g (relayAll t2 es1 (SetTable.grown es1.size)).2.2
            storeSet a (relayAll t2 es1 (SetTable.grown es1.size)).1 (relayAll t2 es1 (SetTable.grown es1.size)).2.1
            pure (some true)
          else pure (some true)) R E s := by
  have hsz : es1.size = M.length := by rw [← Array.length_toList, hl, List.length_map]
  have hb : es1.size < scanBound := by unfold scanBound; omega
  refine wpAny_bind (wpAny_storeSet_of ho hd ?_ (fits_of_scanBound hb))
  obtain ⟨o1, ho1, hex1, hd1⟩ := store_obj (es' := es1) (t' := t2) ho hex hd
  have sb1 := Heap.SameBut.update s.heap a (Obj.putSet es1 t2)
  by_cases c : (!wd && t2.tooFull) = true
  · rw [if_pos c]
    have pm := relayAll_perm t2 es1 (SetTable.grown es1.size)
    have f3 := relayAll_fits t2 es1 (SetTable.grown es1.size)
    have r3 := relayAll_ris t2 es1 (SetTable.grown es1.size)
    have l3 := relayAll_led t2 es1 (SetTable.grown es1.size)
    generalize relayAll t2 es1 (SetTable.grown es1.size) = Z at pm f3 r3 l3 ⊢
    obtain ⟨es2, t3, gave⟩ := Z
    dsimp only at pm f3 r3 l3 ⊢
    rw [hl] at pm
    obtain ⟨M2, e2, p2⟩ := permLift _ _ _ pm
    have hsz2 : es2.size = M.length := by rw [← Array.length_toList, e2, List.length_map, p2.length_eq]
    refine wpAny_bind (hg _ _ _ ?_)
    refine wpAny_bind (wpAny_storeSet_of (s := { s with heap := s.heap.update a (Obj.putSet es1 t2) }) ho1 hd1 ?_ (fits_of_scanBound (by unfold scanBound; omega)))
    obtain ⟨o2, ho2, hex2, hd2⟩ := store_obj (s := { s with heap := s.heap.update a (Obj.putSet es1 t2) }) (es' := es2) (t' := t3) ho1 hex1 hd1
    refine wpAny_pure (hR _ M2 es2 _ t3 (sb1.trans (Heap.SameBut.update _ a _)) ⟨⟨o2, ho2, hex2, hd2⟩, e2, (p2.map (·.2)).nodup_iff.mpr nd, fun p hp => mm p (p2.mem_iff.mp hp), f3, r3, led.imp id fun z => by rw [l3]; exact z, by rw [p2.length_eq]; exact few⟩ p2)
  · rw [if_neg c]
    exact wpAny_pure (hR _ M es1 _ t2 sb1 ⟨⟨o1, ho1, hex1, hd1⟩, hl, nd, mm, fit, up, led, few⟩ (List.Perm.refl _))
theorem key_add {L : List (It Key)} {k : Key} {v : Value} {Q : Bool → Shared → Prop} (r : Holds isK (keyH w) w s.heap a L es ep t) (hv : keyIs k v = true) (few : L.length + 1 < 64)
    (hQ : ∀ b h' L' es' ep' t', Heap.SameBut a s.heap h' → Holds isK (keyH w) w h' a L' es' ep' t' → (k ∈ L.map (·.2) → L' = L) → (k ∉ L.map (·.2) → L'.Perm ((v, k) :: L)) → Q b { s with heap := h' }) :
    wpAny (model P w) A (setAddHashed a v (keyH w k)) Q E s := by
  obtain ⟨o, ho, hex, hd⟩ := r.obj
  have hel : ElemsOf (mixKind P w) es.toList := r.elems
  have hsz : es.size = L.length := by rw [← Array.length_toList, r.lay, List.length_map]
  have hb : es.size < scanBound := by unfold scanBound; omega
  have hsc := keyScan hv
  have hkey : (mixKind P w).is k v = true := hv
  unfold setAddHashed setAddHashedIn
  refine wpAny_holding (wpAny_bind (wpAny_setState_of ho hd r.fit ?_))
  dsimp only
  rw [byScan_of hsc hb hel]
  simp only [↓reduceIte]
  unfold setAddByScan
  refine wpAny_bind (wpAny_bind (wpAny_rule (wpAny_bind (wpAny_setScan_of hkey ho hd r.fit hel ?_))))
  cases hfi : List.findIdx? (fun e => (mixKind P w).is k e.2) es.toList with
  | some j =>
    dsimp only
    obtain ⟨hj, pj, _⟩ := List.findIdx?_eq_some_iff_getElem.mp hfi
    have hin : k ∈ L.map (·.2) := by
      have hm : es.toList[j] ∈ L.map fun p => (keyH w p.2, p.1) := by rw [← r.lay]; exact List.getElem_mem hj
      obtain ⟨p, hp, e⟩ := List.mem_map.mp hm
      have : (mixKind P w).is k p.1 = true := by rw [← e] at pj; exact pj
      exact List.mem_map.mpr ⟨p, hp, ((mixKind P w).inj p.1 k p.2 this (r.mem p hp)).symm⟩
    exact wpAny_pure (wpAny_pure (hQ _ s.heap L es ep t (Heap.SameBut.refl a s.heap) r (fun _ => rfl) fun z => absurd hin z))
  | none =>
    dsimp only
    have hout : k ∉ L.map (·.2) := fun z => by
      obtain ⟨p, hp, e⟩ := List.mem_map.mp z
      have hm : (keyH w p.2, p.1) ∈ es.toList := by rw [r.lay]; exact List.mem_map.mpr ⟨p, hp, rfl⟩
      have c := List.findIdx?_eq_none_iff.mp hfi _ hm
      have : (mixKind P w).is k p.1 = true := by rw [← e]; exact r.mem p hp
      rw [this] at c; cases c
    have hgw : ∀ (b : Bool) (s1 : Shared) (Q : Unit → Shared → Prop), Q () s1 → wpAny (model P w) A (match b with | true => rule "set.scan.the-table-gave-way" | false => pure ()) Q E s1 := fun b s1 Q q => by
      cases b
      · exact wpAny_pure q
      · exact wpAny_rule q
    have pm := layNew_perm t es (keyH w k) v
    have f1 := layNew_fits t es (keyH w k) v
    have r1 := layNew_ris t es (keyH w k) v r.up
    have l1 := layNew_led t es (keyH w k) v
    generalize layNew t es (keyH w k) v = Z at pm f1 r1 l1 ⊢
    obtain ⟨es1, t1, wd, gave⟩ := Z
    dsimp only at pm f1 r1 l1 ⊢
    rw [Array.toList_push, r.lay] at pm
    have pc : es1.toList.Perm (((v, k) :: L).map fun p => (keyH w p.2, p.1)) := pm.trans (List.perm_append_singleton _ _)
    obtain ⟨M, e1, p1⟩ := permLift _ _ _ pc
    have nd : (M.map (·.2)).Nodup := (p1.map (·.2)).nodup_iff.mpr (List.nodup_cons.mpr ⟨hout, r.once⟩)
    have mm : ∀ p ∈ M, keyIs p.2 p.1 = true := fun p hp => by
      rcases List.mem_cons.mp (p1.mem_iff.mp hp) with z | z
      · rw [z]; exact hv
      · exact r.mem p z
    have fw : M.length < 64 := by rw [p1.length_eq]; exact few
    have led : w.params.followText "set-order" = true ∨ t1.led = true := r.led.imp id fun z => by rw [l1]; exact z
    have fin : ∀ h' L' es' ep' t', Heap.SameBut a s.heap h' → Holds isK (keyH w) w h' a L' es' ep' t' → L'.Perm M → Q true { s with heap := h' } := fun h' L' es' ep' t' sb r' p' => hQ true h' L' es' ep' t' sb r' (fun z => absurd z hout) fun _ => p'.trans p1
    refine wpAny_bind (hgw _ _ _ ?_)
    by_cases cp : t1.plain = true
    · rw [if_pos cp]
      refine wpAny_bind ?_
      rw [hashByValue_scannable 8 hsc]
      refine wpAny_pure ?_
      refine key_tail hgw ho hex hd e1 nd mm fw ?_ ?_ ?_ ?_
      · by_cases q : plainKind v = true
        · rw [if_pos q]; exact f1
        · rw [if_neg q]; exact SetTable.fits_plain_off f1
      · by_cases q : plainKind v = true
        · rw [if_pos q]; exact r1
        · rw [if_neg q]; exact r1
      · by_cases q : plainKind v = true
        · rw [if_pos q]; exact led
        · rw [if_neg q]; exact led
      · intro h' L' es' ep' t' sb r' p'; dsimp only; exact wpAny_pure (fin h' L' es' ep' t' sb r' p')
    · rw [if_neg cp]
      refine wpAny_bind (wpAny_pure ?_)
      simp only [↓reduceIte]
      refine key_tail hgw ho hex hd e1 nd mm fw f1 r1 led ?_
      intro h' L' es' ep' t' sb r' p'; dsimp only; exact wpAny_pure (fin h' L' es' ep' t' sb r' p')
/-- the family of keys -/
def famK (P : Program) (w : World) : Fam P w Key where
  is := isK
  hs := keyH w
  ok := fun _ _ => True
  grow := fun h _ => h
  one := fun {h k k' v} a b => (mixKind P w).inj v k k' a b
  ok0 := fun _ => trivial
  hash := fun {A E s k v Q} hu hv h => (mixKind P w).pyHash hv (h _ (Nat.le_succ _))
  add := fun {A E s a L es ep t k v Q} hu r _ hv few hQ => key_add r hv few fun b h' L' es' ep' t' sb r' c1 c2 => hQ b h' L' es' ep' t' sb r' trivial c1 c2
end
end Ps

end
section
set_option Elab.async false
set_option linter.all false
set_option maxRecDepth 100000
set_option maxHeartbeats 4000000
namespace Ps
open PySem PySem.Spec PyProof.Rows L2
section
variable {P : Program} {w : World} {A : Around} {E : Value → Shared → Prop} {s : Shared} {a : Addr} {es : Array (Int × Value)} {ep : Nat} {t : SetTable}
/-! ### tuples of keys -/
abbrev tupAt (P : Program) (w : World) (h : Heap) (k : List Key) (b : Addr) : Prop := IsTupleKey (mixKind P w) h k b
abbrev tupH (P : Program) (w : World) (k : List Key) : Int := tupleKeyHash (mixKind P w) k
def isT (P : Program) (w : World) (h : Heap) (k : List Key) (v : Value) : Prop := ∃ b, v = .ref b ∧ tupAt P w h k b
theorem keys_of {k : List Key} {vs : List Value} (h : ItemsAre (mixKind P w) k vs) : ∀ v ∈ vs, (∃ i t, v = Value.int i t) ∨ ∃ x t, v = Value.str x t := by
  induction h with
  | nil => exact fun v z => nomatch z
  | @cons k0 u ks us h1 _ ih =>
    intro v hv
    rcases List.mem_cons.mp hv with rfl | hv
    · rcases keyIs_shape (show keyIs k0 v = true from h1) with ⟨i, t, _, rfl⟩ | ⟨x, t, _, rfl⟩
      · exact .inl ⟨i, t, rfl⟩
      · exact .inr ⟨x, t, rfl⟩
    · exact ih v hv
theorem no_class {v : Value} (h : (∃ i t, v = Value.int i t) ∨ ∃ x t, v = Value.str x t) (n : Nat) : ofAClassStatement n v = pure false := by
  rcases h with ⟨i, t, rfl⟩ | ⟨x, t, rfl⟩ <;> cases n <;> rfl
theorem by_value {v : Value} (h : (∃ i t, v = Value.int i t) ∨ ∃ x t, v = Value.str x t) (n : Nat) : ∃ b, hashByValue n v = pure b := by
  rcases h with ⟨i, t, rfl⟩ | ⟨x, t, rfl⟩ <;> cases n <;> exact ⟨_, rfl⟩
/-- a loop that asks each item a question and always goes on -/
theorem ask_all {f : Value → Option Bool × Unit → Sem (ForInStep (Option Bool × Unit))} (l : List Value) {C : Value → Prop} (hC : ∀ v ∈ l, C v) {Q : Option Bool × Unit → Shared → Prop}
    (hf : ∀ v r, C v → r.1 = none → ∀ (R : ForInStep (Option Bool × Unit) → Shared → Prop), (∀ r', r'.1 = none → R (.yield r') s) → wpAny (model P w) A (f v r) R E s) (r0 : Option Bool × Unit) (h0 : r0.1 = none) (h : ∀ r, r.1 = none → Q r s) :
    wpAny (model P w) A (forIn l r0 f) Q E s := by
  refine wpAny_forIn_list _ (fun rest r s' => r.1 = none ∧ s' = s ∧ ∀ v ∈ rest, C v) _ ?_ ?_ _ _ ⟨h0, rfl, hC⟩
  · rintro v rest r s' ⟨hr, rfl, hall⟩
    exact hf v r (hall v List.mem_cons_self) hr _ fun r' hr' => ⟨hr', rfl, fun u hu => hall u (List.mem_cons_of_mem _ hu)⟩
  · rintro r s' ⟨hr, rfl, _⟩
    exact h r hr
theorem tup_noClass {k : List Key} {b : Addr} {Q : Bool → Shared → Prop} (hk : tupAt P w s.heap k b) (h : Q false s) : wpAny (model P w) A (ofAClassStatement 8 (.ref b)) Q E s := by
  have hT := hk.typeIs
  obtain ⟨o, items, n, ho, _, hd, hi⟩ := hk
  unfold ofAClassStatement
  refine wpAny_bind (wpAny_typeOf hT ?_)
  dsimp only
  have e : (("tuple" : String) == "tuple") = true := by decide
  simp only [e, if_true, Bool.not_true, Bool.false_eq_true, if_false]
  try refine wpAny_bind (wpAny_pure ?_)
  try simp only [Bool.not_true, Bool.false_eq_true, if_false]
  show wpAny _ _ (seqItems? (.ref b) >>= _) _ _ s
  refine wpAny_bind (wpAny_seqItems ho hd ?_)
  dsimp only
  refine wpAny_bind ?_
  show wpAny _ _ (forIn items _ _) _ _ s
  rw [← Array.forIn_toList]
  refine ask_all items.toList (keys_of hi) (fun v r hv hr R hR => ?_) _ rfl fun r hr => ?_
  · rw [no_class hv]
    refine wpAny_bind (wpAny_pure ?_)
    simp only [Bool.false_eq_true, if_false]
    exact wpAny_pure (hR _ rfl)
  · obtain ⟨r1, r2⟩ := r
    simp only at hr
    subst hr
    exact wpAny_pure h
theorem tup_byValue {k : List Key} {b : Addr} {Q : Bool → Shared → Prop} (hk : tupAt P w s.heap k b) (h : ∀ x, Q x s) : wpAny (model P w) A (hashByValue 8 (.ref b)) Q E s := by
  have hT := hk.typeIs
  obtain ⟨o, items, n, ho, _, hd, hi⟩ := hk
  unfold hashByValue
  refine wpAny_bind (wpAny_specialOf hT F.slot_tuple_hash.lookup ?_)
  show wpAny _ _ (seqItems? (.ref b) >>= _) _ _ s
  refine wpAny_bind (wpAny_seqItems ho hd ?_)
  refine wpAny_bind ?_
  show wpAny _ _ (forIn items _ _) _ _ s
  rw [← Array.forIn_toList]
  refine wpAny_forIn_list _ (fun rest r s' => (r.1 = none ∨ ∃ x, r.1 = some x) ∧ s' = s ∧ ∀ v ∈ rest, (∃ i t, v = Value.int i t) ∨ ∃ x t, v = Value.str x t) _ ?_ ?_ _ _ ⟨.inl rfl, rfl, keys_of hi⟩
  · rintro v rest r s' ⟨hr, rfl, hall⟩
    obtain ⟨q, e⟩ := by_value (hall v List.mem_cons_self) 7
    rw [e]
    refine wpAny_bind (wpAny_pure ?_)
    cases q
    · simp only [Bool.not_false, if_true]
      exact wpAny_pure (wpAny_pure (h _))
    · simp only [Bool.not_true, Bool.false_eq_true, if_false]
      exact wpAny_pure ⟨.inl rfl, rfl, fun u hu => hall u (List.mem_cons_of_mem _ hu)⟩
  · rintro ⟨r1, r2⟩ s' ⟨hr, rfl, _⟩
    cases r1 with
    | none => exact wpAny_pure (h _)
    | some x => exact wpAny_pure (h _)
end
end Ps

end
section
set_option Elab.async false
set_option linter.all false
set_option maxRecDepth 100000
set_option maxHeartbeats 4000000
namespace Ps
open PySem PySem.Spec PyProof.Rows L2
section
variable {P : Program} {w : World} {A : Around} {E : Value → Shared → Prop} {s : Shared} {a : Addr} {es : Array (Int × Value)} {ep : Nat} {t : SetTable} {L : List (It (List Key))}
abbrev HoldsT (P : Program) (w : World) (h : Heap) (a : Addr) (L : List (It (List Key))) (es : Array (Int × Value)) (ep : Nat) (t : SetTable) : Prop := Holds (isT P w) (tupH P w) w h a L es ep t
abbrev hashes (P : Program) (w : World) (L : List (It (List Key))) : List Int := L.map fun p => tupH P w p.2
/-- a table with room -/
def okT (t : SetTable) (hs : List Int) : Prop := TabOk t hs ∧ hs.length * 5 < t.mask * 3
theorem not_seen {k : List Key} {b : Addr} {Q : Bool → Shared → Prop} (hk : tupAt P w s.heap k b) {ys : List Value} (hy : ∀ y ∈ ys, ∃ k', isT P w s.heap k' y) (h : Q false s) : wpAny (model P w) A (searchCouldBeSeen (.ref b) ys) Q E s := by
  unfold searchCouldBeSeen
  refine wpAny_bind ?_
  refine ask_all ys hy (fun v r hv hr R hR => ?_) _ rfl fun r hr => ?_
  · obtain ⟨k', c, rfl, hc⟩ := hv
    dsimp only
    by_cases q : (b == c || (carriedByValue (.ref b) && carriedByValue (.ref c))) = true
    · exact wp_if_pos q (wpAny_pure (hR _ rfl))
    · refine wp_if_neg q (wpAny_bind (wpAny_eqIsQuiet_tuple hk ?_))
      simp only [Bool.not_true, Bool.false_eq_true, if_false]
      refine wpAny_bind (wpAny_eqIsQuiet_tuple hc ?_)
      simp only [Bool.not_true, Bool.false_eq_true, if_false]
      refine wpAny_bind (tup_noClass hk ?_)
      simp only [Bool.false_eq_true, if_false]
      refine wpAny_bind (tup_noClass hc ?_)
      simp only [Bool.false_eq_true, if_false]
      exact wpAny_pure (hR _ rfl)
  · obtain ⟨r1, r2⟩ := r
    simp only at hr
    subst hr
    exact wpAny_pure h
theorem nd_dummy (m : Nat) : ∀ (n : Nat) (p : SetTable.Probe), p.dummy = none → (nth m p n).dummy = none
  | 0, p, h => h
  | n + 1, p, h => nd_dummy m n (adv m p) (by unfold adv; split <;> exact h)
/-- where the c-th step of a hash's way stands -/
abbrev stepAt (m : Nat) (h : Int) (c : Nat) : SetTable.Probe := nth m (runAt m (SetTable.bits h % (m + 1)) (SetTable.bits h)) c
theorem Holds.row (r : HoldsT P w s.heap a L es ep t) {i : Nat} {p : It (List Key)} (h : L[i]? = some p) : es[i]? = some (tupH P w p.2, p.1) := by
  rw [← Array.getElem?_toList, r.lay, List.getElem?_map, h]; rfl
/-- the search for a tuple, on from a step of its way -/
theorem seek (r : HoldsT P w s.heap a L es ep t) (T : TabOk t (hashes P w L)) {x : Addr} {k : List Key} (hx : tupAt P w s.heap k x) (hu : A.units < cLine) {K : Nat}
    (hK : way t.mask (tupH P w k) K ∉ t.place.toList) (hb : ∀ c, c < K → way t.mask (tupH P w k) c ∈ t.place.toList) (hf : K < 10 * SetTable.turns t.mask) {Q : SetFound → Shared → Prop}
    (yes : k ∈ L.map (·.2) → Q (.there none) s) (no : k ∉ L.map (·.2) → Q (.free (way t.mask (tupH P w k) K) false) s) :
    ∀ (fuel c : Nat) (stand : Option SetTable.Probe), stand.getD (t.probeStart (tupH P w k)) = stepAt t.mask (tupH P w k) c → c ≤ K → K - c < fuel →
      (∀ (i : Nat) p, L[i]? = some p → p.2 = k → ∃ d, c ≤ d ∧ d < K ∧ t.place.toList[i]? = some (way t.mask (tupH P w k) d)) →
      wpAny (model P w) A (setSearchFrom a (.ref x) (tupH P w k) true fuel stand) Q E s
  | 0, c, stand, _, _, hz, _ => absurd hz (Nat.not_lt_zero _)
  | fuel + 1, c, stand, hst, hc, hz, hre => by
    obtain ⟨o, ho, hex, hd⟩ := r.obj
    have gw : ¬ t.gaveWay = true := by
      unfold SetTable.gaveWay
      rw [mask_odd T.mok]
      decide
    rw [setSearchFrom_succ]
    refine wpAny_bind (wpAny_setState_of ho hd r.fit ?_)
    dsimp only
    refine wp_if_neg gw ?_
    try refine wpAny_bind (wpAny_pure ?_)
    have on : ∀ q, nth t.mask (stepAt t.mask (tupH P w k) c) q = stepAt t.mask (tupH P w k) (c + q) := fun q => (nth_add t.mask c _ q).symm
    have onj : ∀ q, (nth t.mask (stepAt t.mask (tupH P w k) c) q).j = way t.mask (tupH P w k) (c + q) := fun q => congrArg SetTable.Probe.j (on q)
    have endc : c + (K - c) = K := by omega
    have rowH : ∀ (i : Nat) p, L[i]? = some p → (es[i]?.map (·.1)).getD 0 = tupH P w p.2 := fun i p hp => by rw [r.row hp]; rfl
    rcases go_spec t T.ris T.dm (fun i => (es[i]?.map (·.1)).getD 0) (tupH P w k) (10 * SetTable.turns t.mask) (K - c) _ (nd_dummy t.mask c _ rfl) (by omega)
      (fun q hq => by rw [onj]; exact hb (c + q) (by omega)) (by rw [onj, endc]; exact hK) with ⟨q, i, hq, hi, hh, hno, hpr⟩ | ⟨hno, hpr⟩
    · -- an entry of this hash
      have pr : t.probe (fun i => (es[i]?.map (·.1)).getD 0) (tupH P w k) (stand.getD (t.probeStart (tupH P w k))) = some (.candidate (way t.mask (tupH P w k) (c + q)) i (stepAt t.mask (tupH P w k) (c + (q + 1)))) := by
        rw [hst, ← onj, ← on]
        exact hpr
      rw [pr]
      dsimp only
      rw [onj] at hi
      have hil : i < L.length := by
        have h1 := (List.getElem?_eq_some_iff.mp hi).1
        have h2 := T.sz
        rw [List.length_map] at h2
        rw [Array.length_toList] at h1
        omega
      obtain ⟨p, hp⟩ : ∃ p, L[i]? = some p := ⟨L[i], List.getElem?_eq_getElem hil⟩
      have hm : p ∈ L := List.mem_of_getElem? hp
      obtain ⟨y, ey, hy⟩ := r.mem p hm
      have behind : wpAny (model P w) A (searchRest a (.ref x) (tupH P w k) true fuel es t (way t.mask (tupH P w k) (c + q)) i (stepAt t.mask (tupH P w k) (c + (q + 1)))) Q E s := by
        unfold searchRest
        rw [r.row hp, ey]
        dsimp only
        refine wpAny_bind (wpAny_holding (wpAny_eqBool_tuple hu hy hx ?_))
        refine wpAny_bind (wpAny_setState_of ho hd r.fit ?_)
        dsimp only
        by_cases e : p.2 = k
        · exact wp_if_pos (by simp [e]) (wpAny_pure (yes (List.mem_map.mpr ⟨p, hm, e⟩)))
        · refine wp_if_neg (by simp [e]) ?_
          try refine wpAny_bind (wpAny_pure ?_)
          rw [sameMem]
          dsimp only
          have hsl : t.slot (way t.mask (tupH P w k) (c + q)) = .live i := slot_live T.ris hi
          simp only [if_true, hsl, r.row hp, ey]
          refine wpAny_bind (wpAny_isSame_ref_self (wpAny_bind (wpAny_pure ?_)))
          simp only [if_true]
          refine wp_if_neg (by simp [e]) ?_
          refine seek r T hx hu hK hb hf yes no fuel (c + (q + 1)) _ rfl (by omega) (by omega) fun i0 p0 h0 e0 => ?_
          obtain ⟨d, d1, d2, d3⟩ := hre i0 p0 h0 e0
          refine ⟨d, ?_, d2, d3⟩
          rcases Nat.lt_trichotomy d (c + q) with z | z | z
          · refine absurd ((rowH i0 p0 h0).trans (congrArg (tupH P w) e0)) (hno (d - c) i0 (by omega) ?_)
            rw [onj, show c + (d - c) = d by omega]; exact d3
          · subst z
            have s0 := slot_live T.ris d3
            rw [hsl] at s0
            injection s0 with s0
            rw [← s0, hp] at h0
            exact absurd ((congrArg Prod.snd (Option.some.inj h0)).trans e0) e
          · omega
      by_cases hl : t.led = true
      · refine wp_if_neg (by simp [hl]) ?_
        try refine wpAny_bind (wpAny_pure ?_)
        exact behind
      · refine wp_if_pos (by simp [hl]) (wpAny_bind (not_seen hx (fun v hv => ?_) ?_))
        · obtain ⟨e, he, rfl⟩ := List.mem_map.mp hv
          have he1 : e ∈ es.toList := by
            have : e ∈ es ∧ e.1 = tupH P w k := by simpa using he
            simpa using this.1
          rw [r.lay] at he1
          obtain ⟨p2, hp2, rfl⟩ := List.mem_map.mp he1
          exact ⟨p2.2, r.mem p2 hp2⟩
        · refine wp_if_neg (by decide) ?_
          try refine wpAny_bind (wpAny_pure ?_)
          exact behind
    · -- a free slot
      have pr : t.probe (fun i => (es[i]?.map (·.1)).getD 0) (tupH P w k) (stand.getD (t.probeStart (tupH P w k))) = some (.empty (way t.mask (tupH P w k) K) none) := by
        have e2 := onj (K - c)
        rw [endc] at e2
        rw [hst, ← e2]
        exact hpr
      rw [pr]
      dsimp only
      refine wpAny_pure (no fun hm => ?_)
      obtain ⟨p0, h0, e0⟩ := List.mem_map.mp hm
      obtain ⟨i0, hi0, ei⟩ := List.getElem_of_mem h0
      have h00 : L[i0]? = some p0 := by rw [List.getElem?_eq_getElem hi0, ei]
      obtain ⟨d, d1, d2, d3⟩ := hre i0 p0 h00 e0
      exact hno (d - c) i0 (by omega) (by rw [onj, show c + (d - c) = d by omega]; exact d3) ((rowH i0 p0 h00).trans (congrArg (tupH P w) e0))
theorem find_at (r : HoldsT P w s.heap a L es ep t) (T : okT t (hashes P w L)) {x : Addr} {k : List Key} (hx : tupAt P w s.heap k x) (hu : A.units < cLine) {Q : SetFound → Shared → Prop} (yes : k ∈ L.map (·.2) → Q (.there none) s)
    (no : ∀ K, k ∉ L.map (·.2) → way t.mask (tupH P w k) K ∉ t.place.toList → (∀ c, c < K → way t.mask (tupH P w k) c ∈ t.place.toList) → Q (.free (way t.mask (tupH P w k) K) false) s) :
    wpAny (model P w) A (setSearch a (.ref x) (tupH P w k) true) Q E s := by
  obtain ⟨T, room⟩ := T
  obtain ⟨K, hf, hK, hb⟩ := T.first (by omega) (tupH P w k)
  have big : 10 * SetTable.turns t.mask ≤ 1420 := by
    unfold SetTable.turns
    rcases T.mok with e | e | e <;> omega
  unfold setSearch
  refine seek r T hx hu hK hb hf yes (fun hn => no K hn hK hb) 100000 0 none rfl (Nat.zero_le _) (by omega) fun i p hp e => ?_
  have hi : (hashes P w L)[i]? = some (tupH P w k) := by rw [List.getElem?_map, hp, ← e]; rfl
  have hil : i < t.place.toList.length := by
    have h1 := (List.getElem?_eq_some_iff.mp hp).1
    have h2 := T.sz
    rw [List.length_map] at h2
    rw [Array.length_toList]
    omega
  have hj := List.getElem?_eq_getElem hil
  obtain ⟨c, hc, e⟩ := T.before hK hi hj
  exact ⟨c, Nat.zero_le _, hc, by rw [hj, e]⟩
theorem tup_same {h h' : Heap} {k : List Key} {v : Value} {o : Obj} (hv : isT P w h k v) (ho : h.get? a = some o) (hd : o.data = .set es ep t) (sb : Heap.SameBut a h h') : isT P w h' k v := by
  obtain ⟨b, rfl, o', items, n, ho', hc, hd', hi⟩ := hv
  refine ⟨b, rfl, o', items, n, (sb.2 b ?_).trans ho', hc, hd', hi⟩
  rintro rfl
  rw [ho'] at ho
  cases ho
  rw [hd] at hd'
  exact nomatch hd'
end
end Ps

end
section
set_option Elab.async false
set_option linter.all false
set_option maxRecDepth 100000
set_option maxHeartbeats 4000000
namespace Ps
open PySem PySem.Spec PyProof.Rows L2
theorem pick_all {α : Type} (L : List α) : (List.range L.length).filterMap (fun i => L[i]?) = L := by
  have go : ∀ n, n ≤ L.length → (List.range n).filterMap (fun i => L[i]?) = L.take n := by
    intro n
    induction n with
    | zero => intro _; rfl
    | succ n ih =>
      intro hn
      have h : n < L.length := hn
      rw [List.range_succ, List.filterMap_append, ih (Nat.le_of_lt h), List.take_succ, List.getElem?_eq_getElem h]
      simp [List.getElem?_eq_getElem h]
  rw [go _ (Nat.le_refl _), List.take_length]
section
variable {P : Program} {w : World} {A : Around} {E : Value → Shared → Prop} {s : Shared} {a : Addr} {es : Array (Int × Value)} {ep : Nat} {t : SetTable} {L : List (It (List Key))}
abbrev rowT (P : Program) (w : World) (p : It (List Key)) : Int × Value := (tupH P w p.2, p.1)
theorem reorder (hl : es.toList = L.map (rowT P w)) (order : Array Nat) (pm : order.toList.Perm (List.range L.length)) :
    ∃ M, (order.filterMap (es[·]?)).toList = M.map (rowT P w) ∧ M.Perm L ∧ hashes P w M = order.toList.map fun i => (es.map (·.1)).getD i 0 := by
  have row : ∀ i (h : i < L.length), es[i]? = some (rowT P w L[i]) := fun i h => by
    rw [← Array.getElem?_toList, hl, List.getElem?_map, List.getElem?_eq_getElem h]; rfl
  have go : ∀ l : List Nat, (∀ i ∈ l, i < L.length) → l.filterMap (fun i => es[i]?) = (l.filterMap fun i => L[i]?).map (rowT P w) ∧ hashes P w (l.filterMap fun i => L[i]?) = l.map fun i => (es.map (·.1)).getD i 0 := by
    intro l
    induction l with
    | nil => exact fun _ => ⟨rfl, rfl⟩
    | cons i l ih =>
      intro h
      have hi := h i List.mem_cons_self
      obtain ⟨e1, e2⟩ := ih fun j hj => h j (List.mem_cons_of_mem _ hj)
      rw [List.filterMap_cons_some (row i hi), List.filterMap_cons_some (List.getElem?_eq_getElem hi), e1]
      refine ⟨rfl, ?_⟩
      show tupH P w L[i].2 :: hashes P w _ = _
      rw [List.map_cons, e2]
      congr 1
      have e3 : (es.map (·.1))[i]? = some (tupH P w L[i].2) := by rw [Array.getElem?_map, row i hi]; rfl
      simp [Array.getD_eq_getD_getElem?, e3]
  obtain ⟨e1, e2⟩ := go order.toList fun i hi => List.mem_range.mp (pm.mem_iff.mp hi)
  refine ⟨_, by rw [Array.toList_filterMap]; exact e1, ?_, e2⟩
  have := pm.filterMap fun i => L[i]?
  rwa [pick_all] at this
/-- the table laid anew -/
theorem relay (r : HoldsT P w s.heap a L es ep t) (hdm : t.dummies = #[]) {wanted M : Nat} (hw : SetTable.sizeAbove wanted - 1 = M) (hM : MaskOk M) (hz : SetTable.sizeAbove wanted ≤ 128) (hn : L.length * 5 < M * 3) {Q : Unit → Shared → Prop}
    (hQ : ∀ h' L' es' ep' t', Heap.SameBut a s.heap h' → HoldsT P w h' a L' es' ep' t' → okT t' (hashes P w L') → L'.Perm L → Q () { s with heap := h' }) : wpAny (model P w) A (setRelay a wanted) Q E s := by
  obtain ⟨o, ho, hex, hd⟩ := r.obj
  have few := r.few
  have hsz : es.size = L.length := by rw [← Array.length_toList, r.lay, List.length_map]
  obtain ⟨t', order, e, pm, T, em, el, epl, ed⟩ := relaid_ok t (hs := es.map (·.1)) (wanted := wanted) hw hM (by rw [Array.size_map, hsz]; omega)
  rw [Array.size_map, hsz] at pm
  obtain ⟨N, e1, p1, e2⟩ := reorder r.lay order pm
  rw [← e2] at T
  have hs2 : (order.filterMap (es[·]?)).size = es.size := by rw [← Array.length_toList, e1, List.length_map, p1.length_eq, hsz]
  rw [setRelay_eq]
  refine wpAny_bind (wpAny_setState_of ho hd r.fit ?_)
  dsimp only
  refine wp_if_neg (by rw [sizeLine_eq]; omega) ?_
  try refine wpAny_bind (wpAny_pure ?_)
  rw [e]
  dsimp only
  refine wpAny_bind (wp_if_neg (by rw [hs2]; simp) ?_)
  try refine wpAny_bind (wpAny_pure ?_)
  refine wpAny_pure ?_
  dsimp only
  refine wpAny_storeSet_of ho hd ?_ (by rw [hs2, hsz, sizeLine_eq]; omega)
  have sb : Heap.SameBut a s.heap (s.heap.update a (Obj.putSet (order.filterMap (es[·]?)) t')) := Heap.SameBut.update ..
  obtain ⟨o1, ho1, hex1, hd1⟩ := store_obj (es' := order.filterMap (es[·]?)) (t' := t') ho hex hd
  have room : L.length * 5 < t'.mask * 3 := by rw [em]; exact hn
  refine hQ _ N _ (ep + 1) t' sb ⟨⟨o1, ho1, hex1, hd1⟩, e1, (p1.map (·.2)).nodup_iff.mpr r.once, fun p hp => tup_same (r.mem p (p1.mem_iff.mp hp)) ho hd sb, ?_, T.ris, by rw [el]; exact r.led, by rw [p1.length_eq]; exact few⟩ ⟨T, by rw [List.length_map, p1.length_eq]; exact room⟩ p1
  have q1 := T.sz
  rw [List.length_map, p1.length_eq] at q1
  unfold SetTable.fits SetTable.fill
  rw [ed, Bool.and_eq_true, beq_iff_eq, decide_eq_true_eq]
  show t'.place.size = _ ∧ t'.place.size + 0 ≤ t'.mask
  rw [hs2, hsz]
  omega
theorem tup_add {k : List Key} {v : Value} {Q : Bool → Shared → Prop} (hu : A.units < cLine) (r : HoldsT P w s.heap a L es ep t) (T : okT t (hashes P w L)) (hv : isT P w s.heap k v) (hfew : L.length + 1 < 64)
    (hQ : ∀ b h' L' es' ep' t', Heap.SameBut a s.heap h' → HoldsT P w h' a L' es' ep' t' → okT t' (hashes P w L') → (k ∈ L.map (·.2) → L' = L) → (k ∉ L.map (·.2) → L'.Perm ((v, k) :: L)) → Q b { s with heap := h' }) :
    wpAny (model P w) A (setAddHashed a v (tupH P w k)) Q E s := by
  obtain ⟨o, ho, hex, hd⟩ := r.obj
  obtain ⟨x, rfl, hx⟩ := hv
  have hsz : es.size = L.length := by rw [← Array.length_toList, r.lay, List.length_map]
  have T0 := T.1
  have room : L.length * 5 < t.mask * 3 := by have := T.2; rwa [List.length_map] at this
  unfold setAddHashed
  refine wpAny_holding ?_
  rw [show (100000 : Nat) = 99999 + 1 from rfl, setAddHashedIn_succ]
  refine wpAny_bind (wpAny_setState_of ho hd r.fit ?_)
  dsimp only
  refine wp_if_neg (by simp [byScan, Value.scannable]) ?_
  try refine wpAny_bind (wpAny_pure ?_)
  refine wpAny_bind (find_at r T hx hu (fun hm => ?_) fun K hm hK hb => ?_)
  · dsimp only
    exact wpAny_pure (hQ false s.heap L es ep t (Heap.SameBut.refl a s.heap) r T (fun _ => rfl) fun z => absurd hm z)
  · dsimp only
    refine wpAny_bind (wpAny_setState_of ho hd r.fit ?_)
    dsimp only
    obtain ⟨q1, q2, q3, q4, q5, q6, q7, q8, q9⟩ := T0.put hK hb
    rw [List.length_map] at q2 q9
    generalize gp : t.put (way t.mask (tupH P w k) K) = pt at q1 q3 q4 q5 q6 q7 q8 q9 ⊢
    obtain ⟨t1, n⟩ := pt
    dsimp only at q1 q3 q4 q5 q6 q7 q8 q9 ⊢
    subst q1
    generalize gn : SetTable.below t.place (way t.mask (tupH P w k) K) = n at q2 q3 ⊢
    have lay1 : (SetTable.insertAt es n (tupH P w k, Value.ref x)).toList = (L.take n ++ (Value.ref x, k) :: L.drop n).map (rowT P w) := by
      rw [SetTable.toList_insertAt, r.lay, List.map_append, List.map_cons, List.map_take, List.map_drop]
    have pm : (L.take n ++ (Value.ref x, k) :: L.drop n).Perm ((Value.ref x, k) :: L) := by
      have z : (L.take n ++ (Value.ref x, k) :: L.drop n).Perm ((Value.ref x, k) :: (L.take n ++ L.drop n)) := List.perm_middle
      rwa [List.take_append_drop] at z
    have hh : hashes P w (L.take n ++ (Value.ref x, k) :: L.drop n) = (hashes P w L).take n ++ tupH P w k :: (hashes P w L).drop n := by
      show List.map _ _ = _
      rw [List.map_append, List.map_cons, List.map_take, List.map_drop]
    rw [← hh] at q3
    generalize L.take n ++ (Value.ref x, k) :: L.drop n = N at lay1 pm q3
    generalize SetTable.insertAt es n (tupH P w k, Value.ref x) = es1 at lay1 ⊢
    have hlen : N.length = L.length + 1 := pm.length_eq
    have hs1 : es1.size = L.length + 1 := by rw [← Array.length_toList, lay1, List.length_map, hlen]
    have nd : (N.map (·.2)).Nodup := (pm.map (·.2)).nodup_iff.mpr (List.nodup_cons.mpr ⟨hm, r.once⟩)
    have led1 : w.params.followText "set-order" = true ∨ t1.led = true := by rw [q5]; exact r.led
    -- behind the question whether it hashes by its value
    have rest : ∀ t2 : SetTable, t2.place = t1.place → t2.dummies = t1.dummies → t2.mask = t1.mask → t2.led = t1.led → t2.tooFull = t1.tooFull →
        wpAny (model P w) A (do
          storeSet a es1 t2
          if (!false && t2.tooFull) = true then setRelay a (SetTable.grown (es.size + 1))
          return true) Q E s := fun t2 g1 g2 g3 g4 g5 => by
      have T2 : TabOk t2 (hashes P w N) := by
        refine ⟨by rw [g1]; exact q3.ris, by rw [g2]; exact q3.dm, by rw [g1]; exact q3.sz, by rw [g3]; exact q3.mok, fun y hy => by rw [g1] at hy; rw [g3]; exact q3.bd y hy, fun i h j hi hj => ?_⟩
        rw [g1] at hj
        obtain ⟨c, c1, c2⟩ := q3.reach i h j hi hj
        exact ⟨c, by rw [g3]; exact c1, fun c' hc' => by rw [g1, g3]; exact c2 c' hc'⟩
      have led2 : w.params.followText "set-order" = true ∨ t2.led = true := by rw [g4]; exact led1
      have sz2 : t2.place.size = L.length + 1 := by rw [T2.sz, List.length_map, hlen]
      have m2 : t2.mask = t.mask := g3.trans q4
      have fit2 : t2.fits es1.size = true := by
        unfold SetTable.fits SetTable.fill
        rw [T2.dm, Bool.and_eq_true, beq_iff_eq, decide_eq_true_eq]
        show t2.place.size = es1.size ∧ t2.place.size + 0 ≤ t2.mask
        rw [sz2, hs1, m2]
        rcases T0.mok with e | e | e <;> rw [e] at room ⊢ <;> omega
      refine wpAny_bind (wpAny_storeSet_of ho hd ?_ (by rw [hs1, sizeLine_eq]; omega))
      have sb : Heap.SameBut a s.heap (s.heap.update a (Obj.putSet es1 t2)) := Heap.SameBut.update ..
      obtain ⟨o1, ho1, hex1, hd1⟩ := store_obj (es' := es1) (t' := t2) ho hex hd
      generalize s.heap.update a (Obj.putSet es1 t2) = h1 at sb ho1 ⊢
      have r1 : HoldsT P w h1 a N es1 (ep + 1) t2 := ⟨⟨o1, ho1, hex1, hd1⟩, lay1, nd, fun p hp => by
        rcases List.mem_cons.mp (pm.mem_iff.mp hp) with z | z
        · rw [z]; exact tup_same ⟨x, rfl, hx⟩ ho hd sb
        · exact tup_same (r.mem p z) ho hd sb, fit2, T2.ris, led2, by rw [hlen]; exact hfew⟩
      have fillq : t2.tooFull = decide ((L.length + 1) * 5 ≥ t.mask * 3) := by
        rw [g5]
        unfold SetTable.tooFull
        rw [q9, q4]
      by_cases hf : (L.length + 1) * 5 ≥ t.mask * 3
      · rw [fillq, decide_eq_true hf]
        simp only [Bool.not_false, Bool.and_self, if_true]
        rw [hsz]
        have which : (t.mask = 7 ∧ L.length = 4) ∨ (t.mask = 31 ∧ L.length = 18) := by
          rcases T0.mok with e | e | e <;> rw [e] at hf room
          · exact .inl ⟨e, by omega⟩
          · exact .inr ⟨e, by omega⟩
          · omega
        have go : ∀ M, SetTable.sizeAbove (SetTable.grown (L.length + 1)) - 1 = M → MaskOk M → SetTable.sizeAbove (SetTable.grown (L.length + 1)) ≤ 128 → (L.length + 1) * 5 < M * 3 →
            wpAny (model P w) A (setRelay a (SetTable.grown (L.length + 1))) (fun _ s' => wpAny (model P w) A (pure true) Q E s') E { s with heap := h1 } := fun M g1 g2 g3 g4 =>
          relay (s := { s with heap := h1 }) r1 T2.dm g1 g2 g3 (by rw [hlen]; exact g4) fun h2 L2 es2 ep2 t3 sb2 r2 T3 p2 =>
            wpAny_pure (hQ true h2 L2 es2 ep2 t3 (sb.trans sb2) r2 T3 (fun z => absurd z hm) fun _ => p2.trans pm)
        refine wpAny_bind ?_
        rcases which with ⟨_, e2⟩ | ⟨_, e2⟩
        · exact go 31 (by rw [e2, size_20]) (.inr (.inl rfl)) (by rw [e2, size_20]; decide) (by omega)
        · exact go 127 (by rw [e2, size_76]) (.inr (.inr rfl)) (by rw [e2, size_76]; decide) (by omega)
      · rw [fillq, decide_eq_false hf]
        simp only [Bool.not_false, Bool.and_false, Bool.false_eq_true, if_false]
        try refine wpAny_bind (wpAny_pure ?_)
        exact wpAny_pure (hQ true h1 N es1 (ep + 1) t2 sb r1 ⟨T2, by rw [List.length_map, hlen, m2]; omega⟩ (fun z => absurd z hm) fun _ => pm)
    by_cases cp : t1.plain = true
    · rw [if_pos cp]
      refine wpAny_bind (tup_byValue hx fun bv => ?_)
      cases bv
      · exact rest { t1 with plain := false } rfl rfl rfl rfl rfl
      · exact rest t1 rfl rfl rfl rfl rfl
    · rw [if_neg cp]
      refine wpAny_bind (wpAny_pure ?_)
      exact rest t1 rfl rfl rfl rfl rfl
theorem okT_new (led : Bool) : okT (.fresh 0 0 led) [] := by
  refine ⟨⟨List.Pairwise.nil, rfl, rfl, .inl rfl, fun x hx => (by cases hx), fun i h j hi => (by simp at hi)⟩, ?_⟩
  show 0 * 5 < 7 * 3
  decide
/-- the family of tuples of keys -/
def famT (P : Program) (w : World) : Fam P w (List Key) where
  is := isT P w
  hs := tupH P w
  ok := okT
  grow := fun {h h' k v} ⟨b, e, o, items, n, ho, r⟩ g => ⟨b, e, o, items, n, g b o ho, r⟩
  one := fun {h k k' v} ⟨b, e, x⟩ ⟨c, e', y⟩ => by
    rw [e] at e'
    cases e'
    exact x.inj y
  ok0 := okT_new
  hash := fun {A E s k v Q} hu ⟨b, e, x⟩ h => by
    subst e
    exact wpAny_pyHash_tuple hu x (h _ (Nat.le_add_right _ _))
  add := fun {A E s a L es ep t k v Q} hu r T hv few hQ => tup_add hu r T hv few hQ
end
section
variable {P : Program} {w : World} {α : Type} [DecidableEq α] {A : Around} {E : Value → Shared → Prop} {s : Shared}
/-- set(xs), xs a tuple -/
theorem Fam.callSetT (Φ : Fam P w α) {l : Addr} {items : Array Value} (xs : List (It α)) {Q : Value → Shared → Prop} (hh : A.handled = none) (hl : s.heap.IsTuple l items) (hit : items.toList = xs.map (·.1))
    (hx : ∀ p ∈ xs, Φ.is s.heap p.2 p.1) (hfew : xs.length < 64) (hu : A.units + 3 < cLine)
    (h : ∀ (h' : Heap) (tk : Nat) L, Φ.At h' s.heap.objs.size L → Part xs L → (∀ b o, s.heap.get? b = some o → h'.get? b = some o) → Q (.ref s.heap.objs.size) { s with heap := h', toks := tk }) :
    wpAny (model P w) A (call (.type "set") [.ref l]) Q E s := by
  have sz : items.size = xs.length := by rw [← Array.length_toList, hit, List.length_map]
  obtain ⟨c, tl, hmro⟩ := F.called_set.mro
  have hmade := F.called_set.made
  have hsub := F.called_set.sub
  have h1 := F.called_set.notType
  have h2 := F.called_set.canCreate
  have hct := F.typeCall_set_1 (.ref l)
  refine wpAny_call (codeAny_of_tree ?_)
  show wpAny _ _ (callAny (.type "set") _) _ _ _
  refine wpAny_pure ⟨Code.quiet_builtin _ (by decide +kernel), codeAny_builtin F.entry_type_call ?_⟩
  rw [Around.under_plain (weight_type_call_type "set" [.ref l] []) rfl]
  repeat (any_goals (first | assumption | wp_step))
  refine codeAny_mono (code_set_led1 (.ref l) (E := E) (Q₁ := fun v s1 => v = .ref s.heap.objs.size ∧ s1 = { s with heap := s.heap.push (bare w) }) ⟨rfl, rfl⟩) fun r s1 hr => ?_
  cases r with
  | error e => exact hr
  | ok fl =>
    cases fl with
    | ret v =>
      obtain ⟨rfl, rfl⟩ := hr
      have eS : (s.heap.push (bare w)).get? s.heap.objs.size = some (bare w) := Heap.get?_push_size _ rfl
      have hT : Shared.TypeIs { s with heap := s.heap.push (bare w) } (.ref s.heap.objs.size) "set" := ⟨_, eS, rfl⟩
      have hli := F.called_set.init.lookup
      have hbi := F.called_set.init.bind (.ref s.heap.objs.size)
      repeat (any_goals (first | assumption | wp_step))
      refine codeAny_mono (codeAny_call_builtin (R := wants (fun r s2 => r = .none ∧ ∃ h' tk L, s2 = { s with heap := h', toks := tk } ∧ Φ.At h' s.heap.objs.size L ∧ Part xs L ∧ ∀ b o, s.heap.get? b = some o → h'.get? b = some o) E)
        F.called_set.init.plain F.entry_set_init (check_set_init_1 hT ?_)) fun r2 s2 hr2 => ?_
      · obtain ⟨ol, eol, cl, nl, dl⟩ := hl
        obtain ⟨oc, od, oda, os⟩ := ol
        simp only at cl dl
        subst cl; subst dl
        have eol' : (s.heap.push (bare w)).get? l = some { cls := .type "tuple", dict := od, data := .seq items nl, slots := os } := Heap.get?_push_of_some _ eol
        have isl : (s.heap.push (bare w)).IsTuple l items := ⟨_, eol', rfl, nl, rfl⟩
        have q1 := F.sub_tuple_set
        have q2 := F.sub_tuple_frozenset
        have q3 : (Value.type "tuple" == Value.type "dict") = false := by decide
        unfold Builtin.«set.__init__» noKeywords Builtin.Frozenset.updateFrom
        generalize gPI : pyIter = PI
        wp_walk
        subst gPI
        refine wpAny_pyIter_tuple isl (wpAny_bind (wpAny_runValue ?_))
        have lS : l < s.heap.objs.size := Heap.lt_size eol
        have size1 : (s.heap.push (bare w)).objs.size = s.heap.objs.size + 1 := Heap.size_push ..
        have hh3 : A.in1.in1.in1.handled = none := by simp [hh]
        have lI : l ≠ (s.heap.push (bare w)).objs.size := by rw [size1]; exact Nat.ne_of_lt (Nat.lt_succ_of_lt lS)
        have nS : s.heap.objs.size ∉ [(s.heap.push (bare w)).objs.size, l] := by
          rw [size1]
          simp only [List.mem_cons, List.mem_singleton, List.not_mem_nil, or_false, not_or]
          exact ⟨Nat.ne_of_lt (Nat.lt_succ_self _), Nat.ne_of_gt lS⟩
        have val : ∀ (i : Nat) (v : Value), items[i]? = some v → ∃ k, xs[i]? = some (v, k) := fun i v hv => by
          rw [← Array.getElem?_toList, hit, List.getElem?_map] at hv
          obtain ⟨p, e1, e2⟩ := Option.map_eq_some_iff.mp hv
          exact ⟨p.2, by rw [e1, ← e2]⟩
        refine Φ.turns ((Walks.tuple hh3 _ l lI items).toS) nS xs sz hfew val s.heap hx (free_of _ (Nat.le_refl _)) (fun b hb => free_of _ (by rw [List.mem_singleton.mp hb, size1]; omega)) hu
          items.size 0 _ [] (Nat.zero_add _) ⟨⟨_, Heap.get?_push_size _ rfl, rfl, rfl⟩, isl.at fun o e => Heap.get?_push_of_some _ e⟩ (fun b o e => Heap.get?_push_of_some _ (Heap.get?_push_of_some _ e)) (Φ.new (Heap.get?_push_of_some _ eS)) ⟨fun p z => (by cases z), fun p z => (by cases z)⟩ (Nat.zero_le _) ?_
        intro s' L hm x g k
        obtain ⟨h', g', d', tk', os'⟩ := s'
        have eg : g' = s.gens := hm.gens
        have ed : d' = s.drawn := hm.drawn
        have eo : os' = s.os := hm.os
        subst eg; subst ed; subst eo
        show wpAny _ _ _ _ _ _
        refine wpAny_pure ?_
        show wpAny _ _ (ret Value.none) _ _ _
        exact wpAny_pure ⟨rfl, h', tk', L, rfl, x, g, k⟩
      · cases r2 with
        | error e => exact hr2
        | ok f2 =>
          cases f2 with
          | ret r =>
            obtain ⟨rfl, h', tk, L, rfl, x, g, k⟩ := hr2
            repeat (any_goals (first | assumption | wp_step))
            exact h _ _ _ x g k
          | _ => exact hr2.elim
    | _ => exact hr.elim
end
end Ps

end
section
set_option Elab.async false
set_option linter.all false
set_option maxRecDepth 100000
set_option maxHeartbeats 4000000
namespace Pi
open PySem PySem.Spec PyProof.Rows L2
open PySem.W (dataLt alike alikeAll keyToks keyToksAll)
/-! ### the order of keys -/
theorem tok_key {x y : D} (hx : keyD x = true) (hy : keyD y = true) {l m : List (Int ⊕ List Nat)} (h : keyToks x ++ l = keyToks y ++ m) : x = y ∧ l = m := by
  cases x with
  | int i =>
    cases y with
    | int j =>
      simp only [keyToks, List.cons_append, List.nil_append, List.cons.injEq] at h
      exact ⟨by rw [Sum.inl.inj h.1], h.2⟩
    | str z => simp [keyToks] at h
    | _ => cases hy
  | str w =>
    cases y with
    | int j => simp [keyToks] at h
    | str z =>
      simp only [keyToks, List.cons_append, List.nil_append, List.cons.injEq] at h
      exact ⟨by rw [PySem.W.str_of_cps (Sum.inr.inj h.1)], h.2⟩
    | _ => cases hy
  | _ => cases hx
theorem tok_keys : ∀ {xs ys : List D}, xs.all keyD = true → ys.all keyD = true → keyToksAll xs = keyToksAll ys → xs = ys
  | [], [], _, _, _ => rfl
  | [], y :: ys, _, _, h => by simp [keyToksAll] at h
  | x :: xs, [], _, _, h => by simp [keyToksAll] at h
  | x :: xs, y :: ys, hx, hy, h => by
    rw [List.all_cons, Bool.and_eq_true] at hx hy
    simp only [keyToksAll, List.cons.injEq, true_and] at h
    obtain ⟨e1, e2⟩ := tok_key hx.1 hy.1 h
    rw [e1, tok_keys hx.2 hy.2 e2]
theorem tkeyD_all {xs : List D} (h : tkeyD (.tuple xs) = true) : xs.all keyD = true := by
  cases xs with
  | nil => cases h
  | cons x xs => rw [List.all_cons]; exact h
/-- a key or a tuple of keys -/
def skey (x : D) : Bool := keyD x || tkeyD x
theorem same_of_lt {x y : D} (hx : skey x = true) (hy : skey y = true) (al : alike x y = true) (h1 : dataLt x y = false) (h2 : dataLt y x = false) : x = y := by
  have h3 : keyToks x = keyToks y := PyProof.Rows.lex_total (O := itemOrd) _ _ h1 h2
  cases x with
  | int i =>
    cases y with
    | int j => exact (tok_key (l := []) (m := []) rfl rfl (by rw [h3])).1
    | _ => simp [alike] at al
  | str i =>
    cases y with
    | str j => exact (tok_key (l := []) (m := []) rfl rfl (by rw [h3])).1
    | _ => simp [alike] at al
  | tuple xs =>
    cases y with
    | tuple ys =>
      simp only [skey, keyD, Bool.false_or] at hx hy
      simp only [keyToks] at h3
      rw [tok_keys (tkeyD_all hx) (tkeyD_all hy) h3]
    | _ => simp [alike] at al
  | _ => cases hx
theorem lt_self (x : D) : dataLt x x = false := PyProof.Rows.lex_irrefl (O := itemOrd) _
theorem lt_tr {x y z : D} (h1 : dataLt x y = true) (h2 : dataLt y z = true) : dataLt x z = true := PyProof.Rows.lex_trans (O := itemOrd) _ _ _ h1 h2
theorem lt_as {x y : D} (h : dataLt x y = true) : dataLt y x = false := by
  cases e : dataLt y x with
  | false => rfl
  | true => exact absurd ((lt_self x).symm.trans (lt_tr h e)) (by decide)
/-- keys of one kind -/
structure Kin (xs : List D) : Prop where
  key : ∀ x ∈ xs, skey x = true
  al : ∀ x ∈ xs, ∀ y ∈ xs, alike x y = true
theorem Kin.sub {xs ys : List D} (k : Kin xs) (h : ∀ y ∈ ys, y ∈ xs) : Kin ys := ⟨fun x hx => k.key x (h x hx), fun x hx y hy => k.al x (h x hx) y (h y hy)⟩
theorem setOk_of {xs : List D} (h : setOk xs = true) : xs.length < 64 ∧ ((∀ x ∈ xs, keyD x = true) ∨ ∀ x ∈ xs, tkeyD x = true) ∧ Kin xs := by
  unfold setOk at h
  simp only [Bool.and_eq_true, List.all_eq_true, decide_eq_true_eq, Bool.or_eq_true] at h
  obtain ⟨⟨h1, h2⟩, h3⟩ := h
  refine ⟨h1, h2, fun x hx => ?_, fun x hx y hy => h3 x hx y hy⟩
  unfold skey
  rcases h2 with h2 | h2
  · rw [h2 x hx]; rfl
  · rw [h2 x hx, Bool.or_true]
theorem mem_uins {x : D} : ∀ {ys : List D}, Kin (x :: ys) → ∀ z, z ∈ uinsD x ys ↔ z = x ∨ z ∈ ys
  | [], _, z => by simp [uinsD]
  | y :: ys, k, z => by
    have k2 : Kin (x :: ys) := k.sub fun u hu => by rcases List.mem_cons.mp hu with e | e <;> simp [e]
    unfold uinsD
    split
    · rw [List.mem_cons, mem_uins k2 z, List.mem_cons]
      constructor
      · rintro (h | h | h)
        · exact .inr (.inl h)
        · exact .inl h
        · exact .inr (.inr h)
      · rintro (h | h | h)
        · exact .inr (.inl h)
        · exact .inl h
        · exact .inr (.inr h)
    · rename_i h1
      split
      · rw [List.mem_cons]
      · rename_i h2
        have e : x = y := same_of_lt (k.key x (by simp)) (k.key y (by simp)) (k.al x (by simp) y (by simp)) (by simpa using h2) (by simpa using h1)
        rw [e]
        constructor
        · exact .inr
        · rintro (h | h)
          · rw [h]; exact List.mem_cons_self
          · exact h
theorem mem_usort : ∀ {xs : List D}, Kin xs → ∀ z, z ∈ usortD xs ↔ z ∈ xs
  | [], _, z => by simp [usortD]
  | x :: xs, k, z => by
    have k1 : Kin xs := k.sub fun u hu => List.mem_cons_of_mem _ hu
    have k2 : Kin (x :: usortD xs) := k.sub fun u hu => by
      rcases List.mem_cons.mp hu with e | e
      · rw [e]; exact List.mem_cons_self
      · exact List.mem_cons_of_mem _ ((mem_usort k1 u).mp e)
    rw [show usortD (x :: xs) = uinsD x (usortD xs) from rfl, mem_uins k2, mem_usort k1, List.mem_cons]
theorem uins_up {x : D} : ∀ {ys : List D}, Kin (x :: ys) → ys.Pairwise (fun a b => dataLt a b = true) → (uinsD x ys).Pairwise fun a b => dataLt a b = true
  | [], _, _ => by simp [uinsD]
  | y :: ys, k, p => by
    have k2 : Kin (x :: ys) := k.sub fun u hu => by rcases List.mem_cons.mp hu with e | e <;> simp [e]
    obtain ⟨p1, p2⟩ := List.pairwise_cons.mp p
    unfold uinsD
    split
    · rename_i h1
      refine List.pairwise_cons.mpr ⟨fun z hz => ?_, uins_up k2 p2⟩
      rcases (mem_uins k2 z).mp hz with e | e
      · rw [e]; exact h1
      · exact p1 z e
    · split
      · rename_i h2
        refine List.pairwise_cons.mpr ⟨fun z hz => ?_, p⟩
        rcases List.mem_cons.mp hz with e | e
        · rw [e]; exact h2
        · exact lt_tr h2 (p1 z e)
      · exact p
theorem usort_up : ∀ {xs : List D}, Kin xs → (usortD xs).Pairwise fun a b => dataLt a b = true
  | [], _ => List.Pairwise.nil
  | x :: xs, k => by
    have k1 : Kin xs := k.sub fun u hu => List.mem_cons_of_mem _ hu
    exact uins_up (k.sub fun u hu => by
      rcases List.mem_cons.mp hu with e | e
      · rw [e]; exact List.mem_cons_self
      · exact List.mem_cons_of_mem _ ((mem_usort k1 u).mp e)) (usort_up k1)
theorem le_eq (x y : D) : PySem.W.dataLe false (fun x : D => x) x y = !dataLt y x := by
  rw [PySem.W.dataLe_eq]; rfl
theorem nodup_up {xs : List D} (h : xs.Pairwise fun a b => dataLt a b = true) : xs.Nodup :=
  h.imp fun {a b} q e => by rw [e, lt_self] at q; cases q
/-- the one list without twins that stands in order -/
theorem usort_one {xs ys : List D} (k : Kin xs) (hm : ∀ z, z ∈ ys ↔ z ∈ xs) (nd : ys.Nodup) (hs : ys.Pairwise fun a b => PySem.W.dataLe false (fun x : D => x) a b = true) : ys = usortD xs := by
  have up := usort_up k
  have pm : ys.Perm (usortD xs) := (List.perm_ext_iff_of_nodup nd (nodup_up up)).mpr fun z => (hm z).trans (mem_usort k z).symm
  refine pm.eq_of_pairwise (le := fun a b => PySem.W.dataLe false (fun x : D => x) a b = true) (fun a b ha hb h1 h2 => ?_) hs (up.imp fun {a b} q => by rw [le_eq, lt_as q]; rfl)
  have ma : a ∈ xs := (hm a).mp ha
  have mb : b ∈ xs := (mem_usort k b).mp hb
  rw [le_eq] at h1 h2
  exact same_of_lt (k.key a ma) (k.key b mb) (k.al a ma b mb) (by simpa using h2) (by simpa using h1)
/-! ### sets in the store -/
section
variable {X : Cx} {α : Type} [DecidableEq α]
def At0 {P : Program} {w : World} (Φ : Ps.Fam P w α) (h : Heap) (a : Addr) (L : List (Ps.It α)) : Prop := ∃ (es : Array (Int × Value)) (ep : Nat) (t : SetTable), (∃ o, h.get? a = some o ∧ o.ExactSet ∧ o.data = .set es ep t) ∧ es.toList = (L.map fun p => (Φ.hs p.2, p.1)) ∧ (L.map (·.2)).Nodup ∧
  t.fits es.size = true ∧ Ris t.place.toList ∧ (w.params.followText "set-order" = true ∨ t.led = true) ∧ L.length < 64 ∧ Φ.ok t (L.map fun p => Φ.hs p.2)
def FO {P : Program} {w : World} (Φ : Ps.Fam P w α) (a : Addr) (L : List (Ps.It α)) : HO := .ext fun h => At0 Φ h a L
theorem at0_of {P : Program} {w : World} {Φ : Ps.Fam P w α} {h : Heap} {a : Addr} {L : List (Ps.It α)} (x : Φ.At h a L) : At0 Φ h a L := by
  obtain ⟨es, ep, t, r, k⟩ := x
  exact ⟨es, ep, t, r.obj, r.lay, r.once, r.fit, r.up, r.led, r.few, k⟩
theorem of_at0 {P : Program} {w : World} {Φ : Ps.Fam P w α} {h : Heap} {a : Addr} {L : List (Ps.It α)} (x : At0 Φ h a L) (hm : ∀ p ∈ L, Φ.is h p.2 p.1) : Φ.At h a L := by
  obtain ⟨es, ep, t, h1, h2, h3, h4, h5, h6, h7, k⟩ := x
  exact ⟨es, ep, t, ⟨h1, h2, h3, hm, h4, h5, h6, h7⟩, k⟩
theorem fo_new {P : Program} {w : World} {Φ : Ps.Fam P w α} {H : Hp} {h : Heap} {a : Addr} {L : List (Ps.It α)} (x : At0 Φ h a L) : ObjOk P w H h a (FO Φ a L) := by
  obtain ⟨es, ep, t, ⟨o, ho, r⟩, q⟩ := id x
  refine ⟨x, ⟨o, ho⟩, fun h1 h2 p k => ?_⟩
  obtain ⟨es', ep', t', ⟨o', ho', r'⟩, q'⟩ := (p : At0 Φ h1 a L)
  exact ⟨es', ep', t', ⟨o', k o' ho', r'⟩, q'⟩
/-- what a member is told by -/
def Tells (K : PySem.W.Frag) (B : Addr → Prop) (H : Hp) (enc : α → D) (p : Ps.It α) : Prop := ∃ v, RelV v p.1 ∧ Rp K B H v (enc p.2)
structure FamD (X : Cx) (Φ : Ps.Fam X.prog X.w α) (enc : α → D) : Prop where
  is : ∀ {pins σ H s B k} {u : Value}, Inv X pins σ H s → Tells X.K B H enc (u, k) → Φ.is s.heap k u
  ok : ∀ k, okD (enc k) = true
  inj : ∀ k k', enc k = enc k' → k = k'
def rSetD (X : Cx) (Φ : Ps.Fam X.prog X.w α) (enc : α → D) : List V → Hp → VK → Prop := fun vs H Q => ∃ B v x ds, vs = [v] ∧ RpW X.K B H v x ∧ items x = some ds ∧ (∀ d ∈ ds, ∃ k, enc k = d) ∧ ds.length < 64 ∧
  ∀ a L, H a = none → (∀ p ∈ L, Tells X.K B H enc p) → (∀ d, d ∈ L.map (fun p => enc p.2) ↔ d ∈ ds) → (L.map (·.2)).Nodup → Q (.ref a) (upd H a (FO Φ a L))
theorem items_at {K : PySem.W.Frag} {B : Addr → Prop} {H : Hp} {enc : α → D} : ∀ {vs : List V} {us : List Value} {ds : List D}, Vals vs us → RpAll K B H vs ds → (∀ d ∈ ds, ∃ k, enc k = d) → ∃ xs : List (Ps.It α), us = xs.map (·.1) ∧ ds = xs.map (fun p => enc p.2) ∧ ∀ p ∈ xs, Tells K B H enc p
  | _, _, _, .nil, .nil, _ => ⟨[], rfl, rfl, fun p hp => by cases hp⟩
  | _, _, _, .cons r t, .cons h g, hk => by
    obtain ⟨k, rfl⟩ := hk _ List.mem_cons_self
    obtain ⟨xs, e1, e2, h2⟩ := items_at t g fun d hd => hk d (List.mem_cons_of_mem _ hd)
    exact ⟨(_, k) :: xs, by rw [e1]; rfl, by rw [e2]; rfl, fun p hp => by
      rcases List.mem_cons.mp hp with e | e
      · rw [e]; exact ⟨_, r, h⟩
      · exact h2 p e⟩
theorem cr_set {Φ : Ps.Fam X.prog X.w α} {enc : α → D} (F : FamD X Φ enc) (hc : X.calm = true) (hu : X.A.units + 64 < cLine) : CallR X (.type "set") (rSetD X Φ enc) := by
  intro pins s σ H xs us Q I r ⟨B, v, x, ds, ev, hx, hi, hk, hf, q⟩
  subst ev
  have hn : H s.heap.objs.size = none := I.hok.fresh (Nat.le_refl _)
  have fin : ∀ (L0 : List (Ps.It α)), ds = L0.map (fun p => enc p.2) → (∀ p ∈ L0, Tells X.K B H enc p) → ∀ (h' : Heap) (tk : Nat) L, Φ.At h' s.heap.objs.size L → Ps.Part L0 L → (∀ b o, s.heap.get? b = some o → h'.get? b = some o) →
      ∃ u H1, Inv X pins σ H1 { s with heap := h', toks := tk } ∧ RelV u (.ref s.heap.objs.size) ∧ Q u H1 := fun L0 e2 h2 h' tk L x g k => by
    refine ⟨.ref s.heap.objs.size, upd H s.heap.objs.size (FO Φ s.heap.objs.size L), I.laid (t' := tk) k (Nat.le_refl _) (fo_new (at0_of x)), rfl, q _ L hn (fun p hp => h2 p (g.inn p hp)) (fun d => ?_) ?_⟩
    · rw [e2]
      constructor
      · intro h
        obtain ⟨p, hp, e⟩ := List.mem_map.mp h
        exact List.mem_map.mpr ⟨p, g.inn p hp, e⟩
      · intro h
        obtain ⟨p, hp, e⟩ := List.mem_map.mp h
        obtain ⟨p', hp', e'⟩ := List.mem_map.mp (g.all p hp)
        exact List.mem_map.mpr ⟨p', hp', by rw [← e, ← e']⟩
    · obtain ⟨es, ep, t, r', _⟩ := x
      exact r'.once
  cases x with
  | list xs =>
    cases hi
    obtain ⟨l, vs, rfl, hl, ra⟩ := hx.list
    rw [Vals.ref1 r]
    obtain ⟨its, rv, pl, hz⟩ := I.list hl
    obtain ⟨L0, e1, e2, h2⟩ := items_at rv ra hk
    exact Φ.callSet (P := X.prog) (w := X.w) L0 (I.ok.hd hc) pl.isList (by simpa using e1) (fun p hp => F.is I (h2 p hp)) (by rw [e2, List.length_map] at hf; exact hf) (by omega) (fin L0 e2 h2)
  | tuple xs =>
    cases hi
    obtain ⟨l, vs, rfl, hl, ra, _⟩ := hx.tuple
    rw [Vals.ref1 r]
    obtain ⟨its, rv, pl, hz⟩ := I.tuple hl
    obtain ⟨L0, e1, e2, h2⟩ := items_at rv ra hk
    exact Φ.callSetT (P := X.prog) (w := X.w) L0 (I.ok.hd hc) pl (by simpa using e1) (fun p hp => F.is I (h2 p hp)) (by rw [e2, List.length_map] at hf; exact hf) (by omega) (fin L0 e2 h2)
  | _ => cases hi
def rSrtD (X : Cx) (Φ : Ps.Fam X.prog X.w α) (enc : α → D) : List V → Hp → VK → Prop := fun vs H Q => ∃ a L B H0, vs = [V.ref a] ∧ H a = some (FO Φ a L) ∧ (∀ v d, Rp X.K B H0 v d → Rp X.K B H v d) ∧ (∀ p ∈ L, Tells X.K B H0 enc p) ∧ PySem.W.AllAlike (L.map fun p => enc p.2) ∧ PySem.W.Sortable (L.map fun p => enc p.2) ∧
  ∀ p vs' ds, H p = none → ds.Perm (L.map fun p => enc p.2) → ds.Pairwise (fun a b => PySem.W.dataLe false (fun x : D => x) a b = true) → RpAll X.K B H0 vs' ds → Q (.ref p) (upd H p (.lst vs'))
theorem rp_of_tells {K : PySem.W.Frag} {B : Addr → Prop} {H : Hp} {enc : α → D} : ∀ {L : List (Ps.It α)}, (∀ p ∈ L, Tells K B H enc p) → ∃ vs, Vals vs (L.map (·.1)) ∧ RpAll K B H vs (L.map fun p => enc p.2)
  | [], _ => ⟨[], .nil, .nil⟩
  | p :: L, h => by
    obtain ⟨v, r, x⟩ := h p List.mem_cons_self
    obtain ⟨vs, r2, x2⟩ := rp_of_tells fun q hq => h q (List.mem_cons_of_mem _ hq)
    exact ⟨v :: vs, .cons r r2, .cons x x2⟩
theorem cr_sortS {Φ : Ps.Fam X.prog X.w α} {enc : α → D} (F : FamD X Φ enc) (hc : X.calm = true) (hu : X.A.units + 64 < cLine) : CallR X (.builtin "sorted") (rSrtD X Φ enc) := by
  intro pins s σ H vs us Q I r ⟨a, L, B, H0, ev, ha, hgr, hk0, hal, hsr, q⟩
  have hk : ∀ p ∈ L, Tells X.K B H enc p := fun p hp => (hk0 p hp).imp fun v h => ⟨h.1, hgr _ _ h.2⟩
  subst ev
  have R0 : At0 Φ s.heap a L := (I.hok a _ ha).1
  have x : Φ.At s.heap a L := of_at0 R0 fun p hp => F.is I (hk p hp)
  have few : L.length < 64 := by
    obtain ⟨es, ep, t, r', _⟩ := id x
    exact r'.few
  have okL : ∀ p : Ps.It α, (enc p.2).plain = true ∧ (enc p.2).depth ≤ 60 := fun p => by
    have := F.ok p.2
    unfold okD at this
    rwa [Bool.and_eq_true, decide_eq_true_eq] at this
  rw [Vals.ref1 r]
  refine Φ.sortSet x (I.ok.hd hc) enc (fun h g p hp => ?_) hal hsr (fun p hp => ?_) fun s' p out c L' k g o hp hg hout pm pw => ?_
  · obtain ⟨v, r1, r2⟩ := hk p hp
    obtain ⟨as, ra⟩ := Dp.reads I _ v _ (r2.dp (okL p).1) r1
    refine ⟨as, PyProof.Rows.Reads.keeps g ra, fun c hc => ?_⟩
    obtain ⟨o, ho⟩ := PyProof.On.reads_mem_get ra c hc
    exact Heap.lt_size ho
  · have := (okL p).2
    omega
  · have hk' : ∀ p ∈ L', Tells X.K B H0 enc p := fun p hp => hk0 p (pm.mem_iff.mp hp)
    obtain ⟨vs', rv, ra⟩ := rp_of_tells hk'
    rw [← hout] at rv
    have hlen : vs'.length ≤ sizeLine := by
      rw [ra.length, List.length_map, pm.length_eq, sizeLine_eq]; omega
    have hn : H p = none := I.hok.fresh hp
    have J : Inv X pins σ (upd H p (.lst vs')) { s with heap := s'.heap, gens := s'.gens, drawn := s'.drawn, toks := s'.toks } :=
      I.call (ch := []) (Un.laid k hp hn) (I.hok.laid k hp ⟨hlen, out.toList, c, rv, hg⟩) (by rw [g]; exact I.bare) (fun _ z => nomatch z)
    have e : s' = { s with heap := s'.heap, gens := s'.gens, drawn := s'.drawn, toks := s'.toks } := by
      cases s'
      cases s
      cases o
      rfl
    rw [e]
    refine ⟨.ref p, _, J, rfl, q p vs' _ hn (pm.map _) (List.pairwise_map.mpr (pw.imp fun {a b} h => ?_)) ra⟩
    exact h
def rLenD (X : Cx) (Φ : Ps.Fam X.prog X.w α) : List V → Hp → VK → Prop := fun vs H Q => ∃ a L, vs = [V.ref a] ∧ H a = some (FO Φ a L) ∧ Q (.int (L.length : Nat)) H
theorem cr_lenS {Φ : Ps.Fam X.prog X.w α} : CallR X (.builtin "len") (rLenD X Φ) := by
  intro pins s σ H vs us Q I r ⟨a, L, ev, ha, q⟩
  subst ev
  obtain ⟨es, ep, t, ⟨o, ho, hex, hd⟩, lay, nd, fit, up, led, few, ok⟩ := (show At0 Φ s.heap a L from (I.hok a _ ha).1)
  have hes : es.size = L.length := by rw [← Array.length_toList, lay, List.length_map]
  rw [Vals.ref1 r]
  refine call_len_set ho hex hd fit (by rw [hes] <;> omega) ⟨.int L.length, H, I.tok _, ⟨_, by rw [hes]⟩, q⟩
end
/-! the two families -/
section
variable {X : Cx}
theorem kD_inj : ∀ k k' : Key, kD k = kD k' → k = k'
  | .inl i, .inl j, h => by injection h with h; rw [h]
  | .inr i, .inr j, h => by injection h with h; rw [h]
  | .inl i, .inr j, h => by cases h
  | .inr i, .inl j, h => by cases h
theorem rp_kD {K : PySem.W.Frag} {B : Addr → Prop} {H : Hp} {v : V} {k : Key} (h : Rp K B H v (kD k)) : v = kV k := by
  rcases k with i | x
  · cases h; rfl
  · cases h; rfl
theorem rp_kDs {K : PySem.W.Frag} {B : Addr → Prop} {H : Hp} : ∀ {vs : List V} {ks : List Key}, RpAll K B H vs (ks.map kD) → vs = ks.map kV
  | [], [], _ => rfl
  | _ :: _, [], h => by cases h
  | [], _ :: _, h => by cases h
  | v :: vs, k :: ks, .cons h t => by rw [rp_kD h, rp_kDs t]; rfl
theorem famdK : FamD X (Ps.famK X.prog X.w) kD where
  is := fun {pins σ H s B k u} I ⟨v, r, x⟩ => by
    rw [rp_kD x] at r
    exact kV_is (P := X.prog) (w := X.w) r
  ok := fun k => by rcases k with i | x <;> rfl
  inj := kD_inj
abbrev ktD (ks : List Key) : D := .tuple (ks.map kD)
theorem map_kD_inj : ∀ ks js : List Key, ks.map kD = js.map kD → ks = js
  | [], [], _ => rfl
  | [], _ :: _, h => by cases h
  | _ :: _, [], h => by cases h
  | k :: ks, j :: js, h => by
    rw [List.map_cons, List.map_cons, List.cons.injEq] at h
    rw [kD_inj k j h.1, map_kD_inj ks js h.2]
theorem plain_kD : ∀ ks : List Key, PyData.plainAll (ks.map kD) = true
  | [] => rfl
  | .inl i :: ks => by rw [List.map_cons]; simp only [kD, PyData.plainAll, PyData.plain, Bool.true_and]; exact plain_kD ks
  | .inr i :: ks => by rw [List.map_cons]; simp only [kD, PyData.plainAll, PyData.plain, Bool.true_and]; exact plain_kD ks
theorem depth_kD : ∀ ks : List Key, PyData.depthAll (ks.map kD) ≤ 1
  | [] => by simp [PyData.depthAll]
  | .inl i :: ks => by
    rw [List.map_cons]
    have := depth_kD ks
    simp only [kD, PyData.depthAll, PyData.depth]
    omega
  | .inr i :: ks => by
    rw [List.map_cons]
    have := depth_kD ks
    simp only [kD, PyData.depthAll, PyData.depth]
    omega
theorem famdT : FamD X (Ps.famT X.prog X.w) ktD where
  is := fun {pins σ H s B k u} I ⟨v, r, x⟩ => by
    obtain ⟨a, vs, rfl, ha, ra, _⟩ := RpW.tuple (Or.inl x)
    obtain rfl : u = .ref a := r
    obtain ⟨its, rv, ⟨o, ho, hc, n, hd⟩, _⟩ := I.tuple ha
    rw [rp_kDs ra] at rv
    exact ⟨a, rfl, o, its.toArray, n, ho, hc, hd, by simpa using items_are (P := X.prog) (w := X.w) rv⟩
  ok := fun ks => by
    unfold okD
    rw [Bool.and_eq_true, decide_eq_true_eq]
    have := depth_kD ks
    refine ⟨?_, ?_⟩
    · show PyData.plain (.tuple (ks.map kD)) = true
      simp only [PyData.plain]
      exact plain_kD ks
    · show PyData.depth (.tuple (ks.map kD)) ≤ 60
      simp only [PyData.depth]
      omega
  inj := fun k k' h => map_kD_inj _ _ (by injection h)
theorem of_keyD {d : D} (h : keyD d = true) : ∃ k, kD k = d := by
  cases d with
  | int i => exact ⟨.inl i, rfl⟩
  | str i => exact ⟨.inr i, rfl⟩
  | _ => cases h
theorem of_keyDs : ∀ {ds : List D}, ds.all keyD = true → ∃ ks : List Key, ks.map kD = ds
  | [], _ => ⟨[], rfl⟩
  | d :: ds, h => by
    rw [List.all_cons, Bool.and_eq_true] at h
    obtain ⟨k, rfl⟩ := of_keyD h.1
    obtain ⟨ks, rfl⟩ := of_keyDs h.2
    exact ⟨k :: ks, rfl⟩
theorem of_tkeyD {d : D} (h : tkeyD d = true) : ∃ k, ktD k = d := by
  cases d with
  | tuple xs =>
    obtain ⟨ks, e⟩ := of_keyDs (tkeyD_all h)
    exact ⟨ks, by show PyData.tuple (ks.map kD) = _; rw [e]⟩
  | _ => cases h
theorem cr_or {f : Value} {r1 r2 : List V → Hp → VK → Prop} (h1 : CallR X f r1) (h2 : CallR X f r2) : CallR X f (fun vs H Q => r1 vs H Q ∨ r2 vs H Q) := fun pins s σ H xs us Q I r h => h.elim (h1 pins s σ H xs us Q I r) (h2 pins s σ H xs us Q I r)
def rSetA (X : Cx) : List V → Hp → VK → Prop := fun vs H Q => rSetD X (Ps.famK X.prog X.w) kD vs H Q ∨ rSetD X (Ps.famT X.prog X.w) ktD vs H Q
def rSrtA (X : Cx) : List V → Hp → VK → Prop := fun vs H Q => rSrtD X (Ps.famK X.prog X.w) kD vs H Q ∨ rSrtD X (Ps.famT X.prog X.w) ktD vs H Q
def rLenA (X : Cx) : List V → Hp → VK → Prop := fun vs H Q => rLenD X (Ps.famK X.prog X.w) vs H Q ∨ rLenD X (Ps.famT X.prog X.w) vs H Q
theorem cr_setA (hc : X.calm = true) (hu : X.A.units + 64 < cLine) : CallR X (.type "set") (rSetA X) := cr_or (cr_set famdK hc hu) (cr_set famdT hc hu)
theorem cr_srtA (hc : X.calm = true) (hu : X.A.units + 64 < cLine) : CallR X (.builtin "sorted") (rSrtA X) := cr_or (cr_sortS famdK hc hu) (cr_sortS famdT hc hu)
theorem cr_lenA : CallR X (.builtin "len") (rLenA X) := cr_or cr_lenS cr_lenS
theorem kin_alike {xs ys : List D} (k : Kin xs) (h : ∀ d, d ∈ ys ↔ d ∈ xs) : PySem.W.AllAlike ys := fun d hd d' hd' => k.al d ((h d).mp hd) d' ((h d').mp hd')
theorem sortable_key {xs : List D} (h : ∀ d ∈ xs, keyD d = true) : PySem.W.Sortable xs := .inr fun d hd => by
  have := h d hd
  cases d <;> first | (cases this; done) | exact ⟨fun z => (by cases z), fun _ z => (by cases z)⟩
theorem sortable_tkey {xs : List D} (h : ∀ d ∈ xs, tkeyD d = true) : PySem.W.Sortable xs := .inl fun d hd => by
  have := h d hd
  cases d with
  | tuple l =>
    cases l with
    | nil => cases this
    | cons a b => exact ⟨a, b, rfl⟩
  | _ => cases this
/-- sorted(set(xs)) and len(set(xs)): from the rule of the tree -/
theorem sset_im {v : V} {H : Hp} {Q : VK} (h : rFn X.K (f1D .sset) v H Q) : rSetA X [v] H fun u H2 => rSrtA X [u] H2 Q := by
  obtain ⟨B, x, w, tr, hx, e, q⟩ := h
  obtain ⟨ds, hi, e⟩ : ∃ ds, items x = some ds ∧ (setD ds).map (fun ys => Vl.fr (.list ys)) = some w := by
    cases x with
    | list ds => exact ⟨ds, rfl, e⟩
    | tuple ds => exact ⟨ds, rfl, e⟩
    | _ => cases e
  ·
    obtain ⟨ys, e1, rfl⟩ := Option.map_eq_some_iff.mp e
    obtain ⟨hok, e2⟩ := dec2 (show (if setOk ds = true then some (usortD ds) else none) = some ys from e1)
    subst e2
    obtain ⟨hlen, hkind, kin⟩ := setOk_of hok
    have main : ∀ {α : Type} [DecidableEq α] (Φ : Ps.Fam X.prog X.w α) (enc : α → D) (F : FamD X Φ enc) (hk : ∀ d ∈ ds, ∃ k, enc k = d) (hs : ∀ ys : List D, (∀ d, d ∈ ys ↔ d ∈ ds) → PySem.W.Sortable ys), rSetD X Φ enc [v] H fun u H2 => rSrtD X Φ enc [u] H2 Q := by
      intro α _ Φ enc F hk hs
      refine ⟨B, v, x, ds, rfl, hx, hi, hk, hlen, fun a L hn ht hm nd => ⟨a, L, B, H, rfl, upd_same, fun u d r => r.keep (keepN tr hn), ht, kin_alike kin hm, hs _ hm, fun p vs' ds' hp pm pw ra => ?_⟩⟩
      have hpa : p ≠ a := fun z => by rw [z, upd_same] at hp; cases hp
      have hp0 : H p = none := by rwa [upd_ne hpa] at hp
      have nd2 : (L.map fun p => enc p.2).Nodup := by
        rw [show (L.map fun p => enc p.2) = (L.map (·.2)).map enc by rw [List.map_map]; rfl]
        exact List.pairwise_map.mpr (nd.imp fun {a b} z e => z (F.inj a b e))
      have eds : ds' = usortD ds := usort_one kin (fun z => (pm.mem_iff).trans (hm z)) (pm.nodup_iff.mpr nd2) pw
      rw [← eds] at q
      exact q p _ (fun b o hb => growN hp b o (growN hn b o hb)) hp0 ⟨vs', upd_same, ra⟩
    rcases hkind with hk | hk
    · obtain ⟨B', v', x', ds', r1, r2, ri, r3, r4, r5⟩ := main (Ps.famK X.prog X.w) kD famdK (fun d hd => of_keyD (hk d hd)) fun ys hm => sortable_key fun d hd => hk d ((hm d).mp hd)
      exact .inl ⟨B', v', x', ds', r1, r2, ri, r3, r4, fun a L h1 h2 h3 h4 => .inl (r5 a L h1 h2 h3 h4)⟩
    · obtain ⟨B', v', x', ds', r1, r2, ri, r3, r4, r5⟩ := main (Ps.famT X.prog X.w) ktD famdT (fun d hd => of_tkeyD (hk d hd)) fun ys hm => sortable_tkey fun d hd => hk d ((hm d).mp hd)
      exact .inr ⟨B', v', x', ds', r1, r2, ri, r3, r4, fun a L h1 h2 h3 h4 => .inr (r5 a L h1 h2 h3 h4)⟩
theorem lset_im {v : V} {H : Hp} {Q : VK} (h : rFn X.K (f1D .lset) v H Q) : rSetA X [v] H fun u H2 => rLenA X [u] H2 Q := by
  obtain ⟨B, x, w, tr, hx, e, q⟩ := h
  obtain ⟨ds, hi, e⟩ : ∃ ds, items x = some ds ∧ (setD ds).map (fun ys => Vl.d (.int ys.length)) = some w := by
    cases x with
    | list ds => exact ⟨ds, rfl, e⟩
    | tuple ds => exact ⟨ds, rfl, e⟩
    | _ => cases e
  ·
    obtain ⟨ys, e1, rfl⟩ := Option.map_eq_some_iff.mp e
    obtain ⟨hok, e2⟩ := dec2 (show (if setOk ds = true then some (usortD ds) else none) = some ys from e1)
    subst e2
    obtain ⟨hlen, hkind, kin⟩ := setOk_of hok
    have main : ∀ {α : Type} [DecidableEq α] (Φ : Ps.Fam X.prog X.w α) (enc : α → D) (F : FamD X Φ enc) (hk : ∀ d ∈ ds, ∃ k, enc k = d), rSetD X Φ enc [v] H fun u H2 => rLenD X Φ [u] H2 Q := by
      intro α _ Φ enc F hk
      refine ⟨B, v, x, ds, rfl, hx, hi, hk, hlen, fun a L hn ht hm nd => ⟨a, L, rfl, upd_same, ?_⟩⟩
      have nd2 : (L.map fun p => enc p.2).Nodup := by
        rw [show (L.map fun p => enc p.2) = (L.map (·.2)).map enc by rw [List.map_map]; rfl]
        exact List.pairwise_map.mpr (nd.imp fun {a b} z e => z (F.inj a b e))
      have pm : (L.map fun p => enc p.2).Perm (usortD ds) := (List.perm_ext_iff_of_nodup nd2 (nodup_up (usort_up kin))).mpr fun z => (hm z).trans (mem_usort kin z).symm
      have el : L.length = (usortD ds).length := by rw [← pm.length_eq, List.length_map]
      rw [el]
      exact q _ _ (growN hn) (.int _)
    rcases hkind with hk | hk
    · obtain ⟨B', v', x', ds', r1, r2, ri, r3, r4, r5⟩ := main (Ps.famK X.prog X.w) kD famdK (fun d hd => of_keyD (hk d hd))
      exact .inl ⟨B', v', x', ds', r1, r2, ri, r3, r4, fun a L h1 h2 h3 h4 => .inl (r5 a L h1 h2 h3 h4)⟩
    · obtain ⟨B', v', x', ds', r1, r2, ri, r3, r4, r5⟩ := main (Ps.famT X.prog X.w) ktD famdT (fun d hd => of_tkeyD (hk d hd))
      exact .inr ⟨B', v', x', ds', r1, r2, ri, r3, r4, fun a L h1 h2 h3 h4 => .inr (r5 a L h1 h2 h3 h4)⟩
theorem f1_nr {f : F1} (x : D) (w : Vl) (h : f1D f x = some w) : NoRf w := fun n hn => by
  subst hn
  revert h
  cases f <;> cases x <;> simp [f1D] <;> (try split) <;> (try simp)
  all_goals (intro h; obtain ⟨ns, _, h⟩ := Option.bind_eq_some_iff.mp h; cases ns <;> cases h)
theorem pe_sset {e : Expr} {fa : Ev → Sto → Option (D × Sto)} {p p2 pos pos2 : Pos} (hc : X.calm = true) (hu : X.A.units + 64 < cLine) (hg : Gl X "sorted") (hm : X.mg "sorted" = none) (hg2 : Gl X "set") (hm2 : X.mg "set" = none) (ha : PE X e (SemB X.K fa))
    (he : starEach [e] X.env = [(false, eval e X.env)]) : PE X (.Call (.Name "sorted" p) [.Call (.Name "set" p2) [e] [] pos2] [] pos) (SemE X.K fun env st => bnd (fa env st) fun x s => ret (f1D .sset x) s) := by
  have hs : starEach [e] X.env = (false, eval e X.env) :: starEach [] X.env := he
  have pa : PA X [e] (tCons (SemB X.K fa) tNil) := pa_cons ha pa_nil hs
  refine peImp (pe_callB (cr_srtA hc hu) hg hm (by decide +kernel) (pa_cons (pe_callTy (cr_setA hc hu) hg2 hm2 (by decide +kernel) pa (by decide +kernel) (by decide +kernel) hs rfl) pa_nil) (by decide +kernel) (by decide +kernel)) fun σ H Q h => ?_
  obtain ⟨M, U, st, env, x, s, er, e1, k⟩ := sem_fn (f := f1D .sset) f1_nr σ H Q h
  exact ⟨M, U, st, env, x, s, er, e1, fun v H' M' s1 so r => sset_im (k v H' M' s1 so r)⟩
theorem pe_lset {e : Expr} {fa : Ev → Sto → Option (D × Sto)} {p p2 pos pos2 : Pos} (hc : X.calm = true) (hu : X.A.units + 64 < cLine) (hg : Gl X "len") (hm : X.mg "len" = none) (hg2 : Gl X "set") (hm2 : X.mg "set" = none) (ha : PE X e (SemB X.K fa))
    (he : starEach [e] X.env = [(false, eval e X.env)]) : PE X (.Call (.Name "len" p) [.Call (.Name "set" p2) [e] [] pos2] [] pos) (SemE X.K fun env st => bnd (fa env st) fun x s => ret (f1D .lset x) s) := by
  have hs : starEach [e] X.env = (false, eval e X.env) :: starEach [] X.env := he
  have pa : PA X [e] (tCons (SemB X.K fa) tNil) := pa_cons ha pa_nil hs
  refine peImp (pe_callB cr_lenA hg hm PySem.boot_len (pa_cons (pe_callTy (cr_setA hc hu) hg2 hm2 (by decide +kernel) pa (by decide +kernel) (by decide +kernel) hs rfl) pa_nil) (by decide +kernel) (by decide +kernel)) fun σ H Q h => ?_
  obtain ⟨M, U, st, env, x, s, er, e1, k⟩ := sem_fn (f := f1D .lset) f1_nr σ H Q h
  exact ⟨M, U, st, env, x, s, er, e1, fun v H' M' s1 so r => lset_im (k v H' M' s1 so r)⟩
end
end Pi

end
section
set_option Elab.async false
set_option linter.all false
set_option maxRecDepth 100000
set_option maxHeartbeats 4000000
namespace Pi
open PySem PySem.Spec PyProof.Rows L2
/-! ### dicts: keys -/
theorem keq_kD (j k : Key) : keq (kD j) (kD k) = decide (j = k) := by
  rcases j with i | x <;> rcases k with i' | x'
  · show (i == i') = _
    by_cases h : i = i'
    · subst h; simp
    · rw [decide_eq_false fun z => h (by cases z; rfl)]; simpa using h
  · exact (decide_eq_false fun z => (by cases z)).symm
  · exact (decide_eq_false fun z => (by cases z)).symm
  · show (x == x') = _
    by_cases h : x = x'
    · subst h; simp
    · rw [decide_eq_false fun z => h (by cases z; rfl)]; simpa using h
theorem keqs_kD : ∀ j k : List Key, keqs (j.map kD) (k.map kD) = decide (j = k)
  | [], [] => rfl
  | [], _ :: _ => rfl
  | _ :: _, [] => rfl
  | a :: j, b :: k => by
    show (keq (kD a) (kD b) && keqs (j.map kD) (k.map kD)) = _
    rw [keq_kD, keqs_kD j k]
    by_cases h : a = b
    · subst h
      by_cases h2 : j = k
      · subst h2; simp
      · simp [h2]
    · simp [h]
theorem keyEq_kD (j k : Key) : keyEq (kD j) (kD k) = decide (j = k) := by
  rw [← keq_kD]
  rcases j with i | x <;> rcases k with i' | x' <;> rfl
theorem keyEq_kt (j k : List Key) : keyEq (ktD j) (ktD k) = decide (j = k) := keqs_kD j k
section
variable {K : PySem.W.Frag} {B : Addr → Prop} {H : Hp}
/-- a found value and a found tree -/
def RpO (K : PySem.W.Frag) (B : Addr → Prop) (H : Hp) : Option V → Option D → Prop
  | some v, some d => Rp K B H v d
  | none, none => True
  | _, _ => False
theorem look_k (k : Key) : ∀ {kvs : List (Key × V)} {ds : List (D × D)}, RpKv K B H kvs ds → RpO K B H (valV kvs k) (dlook (kD k) ds)
  | _, _, .nil => trivial
  | _, _, .cons (k := j) (v := v) h r => by
    unfold dlook
    rw [keyEq_kD]
    by_cases e : j = k
    · rw [valV_pos (p := (j, v)) e, if_pos (decide_eq_true e)]; exact h
    · rw [valV_neg (p := (j, v)) e, decide_eq_false e]; exact look_k k r
theorem look_t (k : List Key) : ∀ {kvs : List (List Key × V)} {ds : List (D × D)}, RpTv K B H kvs ds → RpO K B H (valV kvs k) (dlook (ktD k) ds)
  | _, _, .nil => trivial
  | _, _, .cons (k := j) (v := v) h r => by
    unfold dlook
    rw [show keyEq (.tuple (j.map kD)) (ktD k) = decide (j = k) from keyEq_kt j k]
    by_cases e : j = k
    · rw [valV_pos (p := (j, v)) e, if_pos (decide_eq_true e)]; exact h
    · rw [valV_neg (p := (j, v)) e, decide_eq_false e]; exact look_t k r
theorem RpKv.app : ∀ {kvs us : List (Key × V)} {ds es : List (D × D)}, RpKv K B H kvs ds → RpKv K B H us es → RpKv K B H (kvs ++ us) (ds ++ es)
  | _, _, _, _, .nil, s => s
  | _, _, _, _, .cons h r, s => .cons h (r.app s)
theorem RpTv.app : ∀ {kvs us : List (List Key × V)} {ds es : List (D × D)}, RpTv K B H kvs ds → RpTv K B H us es → RpTv K B H (kvs ++ us) (ds ++ es)
  | _, _, _, _, .nil, s => s
  | _, _, _, _, .cons h r, s => .cons h (r.app s)
theorem any_k (k : Key) : ∀ {kvs : List (Key × V)} {ds : List (D × D)}, RpKv K B H kvs ds → (ds.any fun p => keyEq p.1 (kD k)) = kvs.any fun kv => decide (kv.1 = k)
  | _, _, .nil => rfl
  | _, _, .cons h r => by rw [List.any_cons, List.any_cons, any_k k r, keyEq_kD]
theorem any_t (k : List Key) : ∀ {kvs : List (List Key × V)} {ds : List (D × D)}, RpTv K B H kvs ds → (ds.any fun p => keyEq p.1 (ktD k)) = kvs.any fun kv => decide (kv.1 = k)
  | _, _, .nil => rfl
  | _, _, .cons (k := j) h r => by
    rw [List.any_cons, List.any_cons, any_t k r, show keyEq (PyData.tuple (j.map kD)) (ktD k) = decide (j = k) from keyEq_kt j k]
theorem map_k {v : V} {d : D} (k : Key) (h : Rp K B H v d) : ∀ {kvs : List (Key × V)} {ds : List (D × D)}, RpKv K B H kvs ds → RpKv K B H (kvs.map fun kv => if kv.1 = k then (kv.1, v) else kv) (ds.map fun p => if keyEq p.1 (kD k) then (p.1, d) else p)
  | _, _, .nil => .nil
  | _, _, .cons (k := j) (v := u) (d := e) g r => by
    rw [List.map_cons, List.map_cons, keyEq_kD]
    by_cases q : j = k
    · rw [if_pos q, if_pos (decide_eq_true q)]; exact .cons h (map_k k h r)
    · rw [if_neg q, if_neg (by simpa using q)]; exact .cons g (map_k k h r)
theorem map_t {v : V} {d : D} (k : List Key) (h : Rp K B H v d) : ∀ {kvs : List (List Key × V)} {ds : List (D × D)}, RpTv K B H kvs ds → RpTv K B H (kvs.map fun kv => if kv.1 = k then (kv.1, v) else kv) (ds.map fun p => if keyEq p.1 (ktD k) then (p.1, d) else p)
  | _, _, .nil => .nil
  | _, _, .cons (k := j) (v := u) (d := e) g r => by
    rw [List.map_cons, List.map_cons, show keyEq (PyData.tuple (j.map kD)) (ktD k) = decide (j = k) from keyEq_kt j k]
    by_cases q : j = k
    · rw [if_pos q, if_pos (decide_eq_true q)]; exact .cons h (map_t k h r)
    · rw [if_neg q, if_neg (by simpa using q)]; exact .cons g (map_t k h r)
theorem put_k {v : V} {d : D} (k : Key) {kvs : List (Key × V)} {ds : List (D × D)} (r : RpKv K B H kvs ds) (h : Rp K B H v d) : RpKv K B H (putK kvs k v) (dput (kD k) d ds) := by
  unfold putK dput
  rw [any_k k r]
  by_cases q : (kvs.any fun kv => decide (kv.1 = k)) = true
  · rw [if_pos q, if_pos q]; exact map_k k h r
  · rw [if_neg q, if_neg q]; exact r.app (.cons h .nil)
theorem put_t {v : V} {d : D} (k : List Key) {kvs : List (List Key × V)} {ds : List (D × D)} (r : RpTv K B H kvs ds) (h : Rp K B H v d) : RpTv K B H (putK kvs k v) (dput (ktD k) d ds) := by
  unfold putK dput
  rw [any_t k r]
  by_cases q : (kvs.any fun kv => decide (kv.1 = k)) = true
  · rw [if_pos q, if_pos q]; exact map_t k h r
  · rw [if_neg q, if_neg q]; exact r.app (.cons h .nil)
theorem RpKv.len : ∀ {kvs : List (Key × V)} {ds : List (D × D)}, RpKv K B H kvs ds → kvs.length = ds.length
  | _, _, .nil => rfl
  | _, _, .cons _ r => by rw [List.length_cons, List.length_cons, r.len]
theorem RpTv.len : ∀ {kvs : List (List Key × V)} {ds : List (D × D)}, RpTv K B H kvs ds → kvs.length = ds.length
  | _, _, .nil => rfl
  | _, _, .cons _ r => by rw [List.length_cons, List.length_cons, r.len]
/-- a dict whose keys are no tuples does not begin with the sign -/
theorem no_mark {kvs : List (Key × V)} {ds es : List (D × D)} (r : RpKv K B H kvs ((.tuple [], .none) :: es)) : False := by
  cases kvs with
  | nil => cases r
  | cons p kvs =>
    obtain ⟨k, v⟩ := p
    rcases k with i | x <;> cases r
theorem dents_k {k : D} {kvs : List (Key × V)} {ds es : List (D × D)} (r : RpKv K B H kvs ds) (e : dents k ds = some es) : es = ds ∧ keyD k = true := by
  unfold dents at e
  split at e
  · exact (no_mark (ds := es) r).elim
  · split at e
    · cases e; exact ⟨rfl, ‹_›⟩
    · cases e
theorem dents_t {k : D} {ds es : List (D × D)} (e : dents k ((.tuple [], .none) :: ds) = some es) : es = ds ∧ tkeyD k = true := by
  obtain ⟨h, e⟩ := dec2 (show (if tkeyD k = true then some ds else none) = some es from e)
  exact ⟨e.symm, h⟩
end
/-! ### the dict's own rules, for any key that is there -/
def DG (K : PySem.W.Frag) (H : Hp) (a : Addr) (y : V) (o : Option V) : Prop :=
  (∃ kvs k, Rd H a (.dK kvs) ∧ y = kV k ∧ o = valV kvs k) ∨ ∃ kvs k b, Rd H a (.dT kvs) ∧ y = .ref b ∧ SqT K H b (k.map kV) ∧ o = valV kvs k
section
variable {X : Cx} {pins : List (Addr × Obj)} {σ : L2.St} {H : Hp} {s : Shared} {a : Addr} {y v d : V} {u r : Value} {o : Option V} {A : Around} {E : Value → Shared → Prop}
theorem key_at (I : Inv X pins σ H s) {b : Addr} {k : List Key} (h : SqT X.K H b (k.map kV)) : (tupleKind (mixKind X.prog X.w)).is s.heap k b := by
  obtain ⟨its, rv, ⟨ob, ho, hc, n, hd⟩, _⟩ := I.tuple h
  exact ⟨ob, its.toArray, n, ho, hc, hd, by simpa using items_are (P := X.prog) (w := X.w) rv⟩
theorem dg_isD (g : DG X.K H a y o) : IsD H a := by
  rcases g with ⟨kvs, k, e, _⟩ | ⟨kvs, k, b, e, _⟩
  · exact .inl ⟨kvs, e⟩
  · exact .inr ⟨kvs, e⟩
theorem dg_getItem {Q : Value → Shared → Prop} (hu : A.units + 1 < cLine) (I : Inv X pins σ H s) (g : DG X.K H a y (some v)) (ry : RelV y u) (h : ∀ w' s', Inv X pins σ H s' → RelV v w' → Q w' s') :
    wpAny (model X.prog X.w) A (getItem (.ref a) u) Q E s := by
  rcases g with ⟨kvs, k, e, ey, l⟩ | ⟨kvs, k, b, e, ey, eb, l⟩
  · exact d_getItem hu I (.inl ⟨kvs, k, e, ey, l⟩) ry h
  · subst ey
    cases (show u = Value.ref b from ry)
    obtain ⟨z, hd, xs, rel, dd⟩ := dt_rd I.hok e
    obtain ⟨w', hw, rw'⟩ := RelO.some_of (v := v) (o := (atKey xs k).map (·.2)) (by rw [l]; exact rel.val k)
    obtain ⟨p, hp, hp2⟩ := Option.map_eq_some_iff.mp hw
    refine wpAny_getItem_heap (tupleKind_room_in1 hu) (key_at I eb) dd hp ?_
    rw [hp2]
    exact h w' _ (I.tok _) rw'
theorem dg_in {Q : Value → Shared → Prop} (hu : A.units + 1 < cLine) (I : Inv X pins σ H s) (g : DG X.K H a y o) (ry : RelV y u) (h : ∀ s', Inv X pins σ H s' → Q (.bool o.isSome) s') :
    wpAny (model X.prog X.w) A (compareOp .In u (.ref a)) Q E s := by
  rcases g with ⟨kvs, k, e, ey, l⟩ | ⟨kvs, k, b, e, ey, eb, l⟩
  · exact d_in hu I (.inl ⟨kvs, k, e, ey, l⟩) ry h
  · subst ey
    cases (show u = Value.ref b from ry)
    obtain ⟨z, hd, xs, rel, dd⟩ := dt_rd I.hok e
    refine wpAny_in_heap (tupleKind_room_in1 hu) (key_at I eb) hd dd ?_
    have q := (rel.val k).isSome_eq
    rw [Option.isSome_map] at q
    rw [← q, ← l]
    exact h _ (I.tok _)
theorem dg_notIn {Q : Value → Shared → Prop} (hu : A.units + 1 < cLine) (I : Inv X pins σ H s) (g : DG X.K H a y o) (ry : RelV y u) (h : ∀ s', Inv X pins σ H s' → Q (.bool (!o.isSome)) s') :
    wpAny (model X.prog X.w) A (compareOp .NotIn u (.ref a)) Q E s := by
  rcases g with ⟨kvs, k, e, ey, l⟩ | ⟨kvs, k, b, e, ey, eb, l⟩
  · exact d_notIn hu I (.inl ⟨kvs, k, e, ey, l⟩) ry h
  · subst ey
    cases (show u = Value.ref b from ry)
    obtain ⟨z, hd, xs, rel, dd⟩ := dt_rd I.hok e
    refine wpAny_notIn_heap (tupleKind_room_in1 hu) (key_at I eb) hd dd ?_
    have q := (rel.val k).isSome_eq
    rw [Option.isSome_map] at q
    rw [← q, ← l]
    exact h _ (I.tok _)
theorem dg_get2 {Q : Value → Shared → Prop} (hu : A.units + 1 < cLine) (I : Inv X pins σ H s) (g : DG X.K H a y o) (ry : RelV y u) (rd : RelV d r) (h : ∀ w' s', Inv X pins σ H s' → RelV (o.getD d) w' → Q w' s') :
    wpAny (model X.prog X.w) A (call (.builtin "dict.get") [.ref a, u, r]) Q E s := by
  rcases g with ⟨kvs, k, e, ey, l⟩ | ⟨kvs, k, b, e, ey, eb, l⟩
  · exact d_get2 hu I (.inl ⟨kvs, k, e, ey, l⟩) ry rd h
  · subst ey
    cases (show u = Value.ref b from ry)
    obtain ⟨z, hd, xs, rel, dd⟩ := dt_rd I.hok e
    refine call_meetsIn PySem.F.slot_dict_get dd.typeIs PySem.F.entry_dict_get (PySem.F.args_dict_get_3 _ _ _) (meetsH_dict_get_default (tupleKind (mixKind X.prog X.w)) a b hd r) ⟨tupleKind_room_in1 hu, k, xs, key_at I eb, dd, h _ _ (I.tok _) ?_⟩
    rw [l]
    exact (rel.val k).getD rd
theorem dg_get1 {Q : Value → Shared → Prop} (hu : A.units + 1 < cLine) (I : Inv X pins σ H s) (g : DG X.K H a y o) (ry : RelV y u) (h : ∀ w' s', Inv X pins σ H s' → RelV (o.getD .non) w' → Q w' s') :
    wpAny (model X.prog X.w) A (call (.builtin "dict.get") [.ref a, u]) Q E s := by
  rcases g with ⟨kvs, k, e, ey, l⟩ | ⟨kvs, k, b, e, ey, eb, l⟩
  · exact d_get1 hu I (.inl ⟨kvs, k, e, ey, l⟩) ry h
  · subst ey
    cases (show u = Value.ref b from ry)
    obtain ⟨z, hd, xs, rel, dd⟩ := dt_rd I.hok e
    refine call_meetsIn PySem.F.slot_dict_get dd.typeIs PySem.F.entry_dict_get (PySem.F.args_dict_get_2 _ _) (meetsH_dict_get (tupleKind (mixKind X.prog X.w)) a b hd) ⟨tupleKind_room_in1 hu, k, xs, key_at I eb, dd, h _ _ (I.tok _) ?_⟩
    rw [l]
    exact (rel.val k).getD rfl
/-- what is found in a dict's tree is found in the dict -/
theorem dg_of {K : PySem.W.Frag} {B : Addr → Prop} {H : Hp} {x y : V} {ds : List (D × D)} {k : D} {o : Option D} (hx : RpW K B H x (.dict ds)) (hy : RpW K B H y k) (e : dget ds k = some o) : ∃ a o', x = .ref a ∧ DG K H a y o' ∧ RpO K B H o' o := by
  obtain ⟨es, e1, e2⟩ := Option.map_eq_some_iff.mp (show (dents k ds).map (dlook k) = some o from e)
  have onK : ∀ a kvs, x = .ref a → Rd H a (.dK kvs) → RpKv K B H kvs ds → ∃ a o', x = .ref a ∧ DG K H a y o' ∧ RpO K B H o' o := fun a kvs ex hr r => by
    obtain ⟨rfl, hk⟩ := dents_k r e1
    obtain ⟨k', rfl⟩ := of_keyD hk
    have ey : y = kV k' := by
      rcases k' with i | z
      · exact hy.int
      · exact hy.str
    refine ⟨a, valV kvs k', ex, .inl ⟨kvs, k', hr, ey, rfl⟩, ?_⟩
    rw [← e2]
    exact look_k k' r
  have onT : ∀ a kvs es', x = .ref a → ds = (.tuple [], .none) :: es' → Rd H a (.dT kvs) → RpTv K B H kvs es' → ∃ a o', x = .ref a ∧ DG K H a y o' ∧ RpO K B H o' o := fun a kvs es' ex ed hr r => by
    subst ed
    obtain ⟨rfl, hk⟩ := dents_t e1
    obtain ⟨k', rfl⟩ := of_tkeyD hk
    obtain ⟨b, vs, rfl, hb, rb, _⟩ := hy.tuple
    rw [rp_kDs rb] at hb
    refine ⟨a, valV kvs k', ex, .inr ⟨kvs, k', b, hr, rfl, hb, rfl⟩, ?_⟩
    rw [← e2]
    exact look_t k' r
  rcases hx with hx | ⟨a, rfl, hx⟩
  · cases hx with
    | dK n h r => exact onK _ _ rfl (.inl h) r
    | dT n h r => exact onT _ _ _ rfl rfl (.inl h) r
  · rcases hx with ⟨kvs, h, r⟩ | ⟨kvs, es', ed, h, r⟩
    · exact onK a kvs rfl (.inl h) r
    · exact onT a kvs es' rfl ed (.inl h) r
end
end Pi

end
section
set_option Elab.async false
set_option linter.all false
set_option maxRecDepth 100000
set_option maxHeartbeats 1000000
namespace Pi
open PySem PySem.Spec PyProof.Rows L2
section
variable {X : Cx}
theorem isSome_rpo {K : PySem.W.Frag} {B : Addr → Prop} {H : Hp} {o' : Option V} {o : Option D} (h : RpO K B H o' o) : o'.isSome = o.isSome := by
  cases o' <;> cases o <;> first | rfl | exact h.elim
theorem op_cmpP {op : CmpOp} {c : Cop} (h : op = (match c with | .eq => .Eq | .ne => .NotEq | .lt => .Lt | .le => .LtE | .gt => .Gt | .ge => .GtE | .isin => .In | .notin => .NotIn)) (hu : X.A.units + 64 < cLine) :
    OpR X (compareOp op) (rOp X.K (bV (cmpD c))) := by
  subst h
  have inn : ∀ {x y : D} {b : Bool}, inD x y = some b → (∃ ys, y = .list ys ∧ okD x = true ∧ PyData.plainAll ys = true ∧ b = ys.any fun y => PyData.eqv y x) ∨ (∃ ys, y = .tuple ys ∧ okD x = true ∧ PyData.plainAll ys = true ∧ b = ys.any fun y => PyData.eqv y x) ∨
      (∃ z w, y = .str z ∧ x = .str w ∧ b = !(Builtin.Str.occurrences z w 0 z.length 1).isEmpty) ∨ ∃ ds o, y = .dict ds ∧ dget ds x = some o ∧ b = o.isSome := fun {x y b} e => by
    unfold inD at e
    split at e
    · obtain ⟨h1, h2⟩ := dec2 e
      rw [Bool.and_eq_true] at h1
      exact .inl ⟨_, rfl, h1.1, h1.2, h2.symm⟩
    · obtain ⟨h1, h2⟩ := dec2 e
      rw [Bool.and_eq_true] at h1
      exact .inr (.inl ⟨_, rfl, h1.1, h1.2, h2.symm⟩)
    · split at e
      · cases e; exact .inr (.inr (.inl ⟨_, _, rfl, rfl, rfl⟩))
      · cases e
    · obtain ⟨o, e1, e2⟩ := Option.map_eq_some_iff.mp e
      exact .inr (.inr (.inr ⟨_, o, rfl, e1, e2.symm⟩))
    · cases e
  cases c with
  | eq =>
    refine op_dataP (fun x y b e => ?_) (fun {s a c da dc as cs b Q} r1 r2 e hu q => ?_) hu
    · obtain ⟨h1, _⟩ := dec2 (show (if (okD x && okD y) = true then some (PyData.eqv x y) else none) = some b from e)
      rw [Bool.and_eq_true] at h1; exact h1
    · obtain ⟨h1, h2⟩ := dec2 (show (if (okD da && okD dc) = true then some (PyData.eqv da dc) else none) = some b from e)
      rw [Bool.and_eq_true] at h1
      subst h2
      exact SeqAt.eq_plain r1 r2 (okD_of h1.1).1 (okD_of h1.2).1 hu q
  | ne =>
    refine op_dataP (fun x y b e => ?_) (fun {s a c da dc as cs b Q} r1 r2 e hu q => ?_) hu
    · obtain ⟨h1, _⟩ := dec2 (show (if (okD x && okD y) = true then some (!PyData.eqv x y) else none) = some b from e)
      rw [Bool.and_eq_true] at h1; exact h1
    · obtain ⟨h1, h2⟩ := dec2 (show (if (okD da && okD dc) = true then some (!PyData.eqv da dc) else none) = some b from e)
      rw [Bool.and_eq_true] at h1
      subst h2
      exact SeqAt.ne_plain r1 r2 (okD_of h1.1).1 (okD_of h1.2).1 hu q
  | lt =>
    refine op_dataP (fun x y b e => ?_) (fun {s a c da dc as cs b Q} r1 r2 e hu q => ?_) hu
    · obtain ⟨h1, h2, _⟩ := cond4 (show (if (okD x && okD y && PySem.W.alike x y && !isNone x) = true then some (PySem.W.dataLt x y) else none) = some b from e)
      exact ⟨h1, h2⟩
    · obtain ⟨h1, h2, h3, h4, h5⟩ := cond4 (show (if (okD da && okD dc && PySem.W.alike da dc && !isNone da) = true then some (PySem.W.dataLt da dc) else none) = some b from e)
      subst h5
      exact PySem.W.lt_data r1 r2 h3 (nn (notT h4)) hu q
  | le =>
    refine op_dataP (fun x y b e => ?_) (fun {s a c da dc as cs b Q} r1 r2 e hu q => ?_) hu
    · obtain ⟨h1, h2, _⟩ := cond4 (show (if (okD x && okD y && PySem.W.alike x y && !isNone x) = true then some (!PySem.W.dataLt y x) else none) = some b from e)
      exact ⟨h1, h2⟩
    · obtain ⟨h1, h2, h3, h4, h5⟩ := cond4 (show (if (okD da && okD dc && PySem.W.alike da dc && !isNone da) = true then some (!PySem.W.dataLt dc da) else none) = some b from e)
      subst h5
      exact PySem.W.le_data r1 r2 h3 (nn (notT h4)) hu q
  | gt =>
    refine op_dataP (fun x y b e => ?_) (fun {s a c da dc as cs b Q} r1 r2 e hu q => ?_) hu
    · obtain ⟨h1, h2, _⟩ := cond4 (show (if (okD x && okD y && PySem.W.alike x y && !isNone x) = true then some (PySem.W.dataLt y x) else none) = some b from e)
      exact ⟨h1, h2⟩
    · obtain ⟨h1, h2, h3, h4, h5⟩ := cond4 (show (if (okD da && okD dc && PySem.W.alike da dc && !isNone da) = true then some (PySem.W.dataLt dc da) else none) = some b from e)
      subst h5
      exact PySem.W.gt_data r1 r2 h3 (nn (notT h4)) hu q
  | ge =>
    refine op_dataP (fun x y b e => ?_) (fun {s a c da dc as cs b Q} r1 r2 e hu q => ?_) hu
    · obtain ⟨h1, h2, _⟩ := cond4 (show (if (okD x && okD y && PySem.W.alike x y && !isNone x) = true then some (!PySem.W.dataLt x y) else none) = some b from e)
      exact ⟨h1, h2⟩
    · obtain ⟨h1, h2, h3, h4, h5⟩ := cond4 (show (if (okD da && okD dc && PySem.W.alike da dc && !isNone da) = true then some (!PySem.W.dataLt da dc) else none) = some b from e)
      subst h5
      exact PySem.W.ge_data r1 r2 h3 (nn (notT h4)) hu q
  | isin =>
    intro pins s σ H v u vv uu Q I rx ry ⟨B, x, y, w, tr, hx, hy, e, q⟩
    obtain ⟨k, e1, e⟩ := Option.map_eq_some_iff.mp e
    cases e
    rcases inn e1 with ⟨ys, rfl, o, p, rfl⟩ | ⟨ys, rfl, o, p, rfl⟩ | ⟨z, w, rfl, rfl, rfl⟩ | ⟨ds, o, rfl, eo, rfl⟩
    · obtain ⟨as, r1⟩ := Dp.reads I x v vv (hx.dp (okD_of o).1) rx
      obtain ⟨bs, r2⟩ := Dp.reads I (.list ys) u uu (hy.dp (by simpa [PyData.plain] using p)) ry
      have h1 := (okD_of o).2
      exact SeqAt.in_list_data r2 r1 p (okD_of o).1 (by omega) ⟨.bl _, H, I, rfl, q _ _ grow0 (.bl _)⟩
    · obtain ⟨as, r1⟩ := Dp.reads I x v vv (hx.dp (okD_of o).1) rx
      obtain ⟨bs, r2⟩ := Dp.reads I (.tuple ys) u uu (hy.dp (by simpa [PyData.plain] using p)) ry
      have h1 := (okD_of o).2
      exact SeqAt.in_tuple_data r2 r1 p (okD_of o).1 (by omega) ⟨.bl _, H, I, rfl, q _ _ grow0 (.bl _)⟩
    · cases hx.str; cases hy.str
      exact op_in_str pins s σ H _ _ _ _ Q I rx ry ⟨_, _, rfl, rfl, q _ _ grow0 (.bl _)⟩
    · obtain ⟨a, o', rfl, g, ro⟩ := dg_of hy hx eo
      obtain rfl : uu = Value.ref a := ry
      refine dg_in (by omega) I g rx fun s' I' => ⟨.bl o'.isSome, H, I', rfl, ?_⟩
      rw [isSome_rpo ro]
      exact q _ _ grow0 (.bl _)
  | notin =>
    intro pins s σ H v u vv uu Q I rx ry ⟨B, x, y, w, tr, hx, hy, e, q⟩
    obtain ⟨k, e1, e⟩ := Option.map_eq_some_iff.mp e
    cases e
    obtain ⟨k', e2, rfl⟩ := Option.map_eq_some_iff.mp (show (inD x y).map (!·) = some k from e1)
    rcases inn e2 with ⟨ys, rfl, o, p, rfl⟩ | ⟨ys, rfl, o, p, rfl⟩ | ⟨z, w, rfl, rfl, rfl⟩ | ⟨ds, o, rfl, eo, rfl⟩
    · obtain ⟨as, r1⟩ := Dp.reads I x v vv (hx.dp (okD_of o).1) rx
      obtain ⟨bs, r2⟩ := Dp.reads I (.list ys) u uu (hy.dp (by simpa [PyData.plain] using p)) ry
      have h1 := (okD_of o).2
      exact SeqAt.notIn_list_data r2 r1 p (okD_of o).1 (by omega) ⟨.bl _, H, I, rfl, q _ _ grow0 (.bl _)⟩
    · obtain ⟨as, r1⟩ := Dp.reads I x v vv (hx.dp (okD_of o).1) rx
      obtain ⟨bs, r2⟩ := Dp.reads I (.tuple ys) u uu (hy.dp (by simpa [PyData.plain] using p)) ry
      have h1 := (okD_of o).2
      exact SeqAt.notIn_tuple_data r2 r1 p (okD_of o).1 (by omega) ⟨.bl _, H, I, rfl, q _ _ grow0 (.bl _)⟩
    · cases hx.str; cases hy.str
      exact op_notin_str pins s σ H _ _ _ _ Q I rx ry ⟨_, _, rfl, rfl, q _ _ grow0 (.bl _)⟩
    · obtain ⟨a, o', rfl, g, ro⟩ := dg_of hy hx eo
      obtain rfl : uu = Value.ref a := ry
      refine dg_notIn (by omega) I g rx fun s' I' => ⟨.bl (!o'.isSome), H, I', rfl, ?_⟩
      rw [isSome_rpo ro]
      exact q _ _ grow0 (.bl _)
end
end Pi

end
section
set_option Elab.async false
set_option linter.all false
set_option maxRecDepth 100000
set_option maxHeartbeats 1000000
namespace Pi
open PySem PySem.Spec PyProof.Rows L2
section
variable {X : Cx}
def rC1 (K : PySem.W.Frag) (f : D → Option Vl) : List V → Hp → VK → Prop := fun vs H Q => ∃ v, vs = [v] ∧ rFn K f v H Q
def rC2 (K : PySem.W.Frag) (f : D → D → Option Vl) : List V → Hp → VK → Prop := fun vs H Q => ∃ v u, vs = [v, u] ∧ rOp K f v u H Q
section
variable {K : PySem.W.Frag} {B : Addr → Prop} {H : Hp} {Q : VK}
theorem rp_ints : ∀ {vs : List V} {xs : List D} {ns : List Int}, RpAll K B H vs xs → intsD xs = some ns → vs = ns.map V.int
  | _, _, _, .nil, e => by cases e; rfl
  | _, _, _, .cons h r, e => by
    cases h with
    | int i =>
      obtain ⟨ms, e1, rfl⟩ := Option.map_eq_some_iff.mp (show (intsD _).map (i :: ·) = some _ from e)
      rw [rp_ints r e1]; rfl
    | non => cases e
    | bl b => cases e
    | str b => cases e
    | lst a b => cases e
    | tup a b => cases e
    | dK a b c => cases e
    | dT a b c => cases e
theorem rp_bools : ∀ {vs : List V} {xs : List D} {ns : List Bool}, RpAll K B H vs xs → boolsD xs = some ns → vs = ns.map V.bl
  | _, _, _, .nil, e => by cases e; rfl
  | _, _, _, .cons h r, e => by
    cases h with
    | bl i =>
      obtain ⟨ms, e1, rfl⟩ := Option.map_eq_some_iff.mp (show (boolsD _).map (i :: ·) = some _ from e)
      rw [rp_bools r e1]; rfl
    | non => cases e
    | int b => cases e
    | str b => cases e
    | lst a b => cases e
    | tup a b => cases e
    | dK a b c => cases e
    | dT a b c => cases e
end
theorem maxI_ge : ∀ (r : List Int) (m : Int), m ≤ maxI m r ∧ (∀ y, y ∈ r → y ≤ maxI m r) ∧ (maxI m r = m ∨ maxI m r ∈ r)
  | [], m => ⟨Int.le_refl m, by simp, Or.inl rfl⟩
  | x :: r, m => by
    have e : maxI m (x :: r) = maxI (if x > m then x else m) r := rfl
    rw [e]
    by_cases h : x > m
    · rw [if_pos h]
      obtain ⟨h1, h2, h3⟩ := maxI_ge r x
      refine ⟨by omega, fun y hy => ?_, Or.inr ?_⟩
      · rcases List.mem_cons.mp hy with e | e
        · omega
        · exact h2 y e
      · rcases h3 with e | e
        · rw [e]; exact List.mem_cons_self
        · exact List.mem_cons_of_mem _ e
    · rw [if_neg h]
      obtain ⟨h1, h2, h3⟩ := maxI_ge r m
      refine ⟨h1, fun y hy => ?_, ?_⟩
      · rcases List.mem_cons.mp hy with e | e
        · omega
        · exact h2 y e
      · rcases h3 with e | e
        · exact Or.inl e
        · exact Or.inr (List.mem_cons_of_mem _ e)
theorem minI_le : ∀ (r : List Int) (m : Int), minI m r ≤ m ∧ (∀ y, y ∈ r → minI m r ≤ y) ∧ (minI m r = m ∨ minI m r ∈ r)
  | [], m => ⟨Int.le_refl m, by simp, Or.inl rfl⟩
  | x :: r, m => by
    have e : minI m (x :: r) = minI (if x < m then x else m) r := rfl
    rw [e]
    by_cases h : x < m
    · rw [if_pos h]
      obtain ⟨h1, h2, h3⟩ := minI_le r x
      refine ⟨by omega, fun y hy => ?_, Or.inr ?_⟩
      · rcases List.mem_cons.mp hy with e | e
        · omega
        · exact h2 y e
      · rcases h3 with e | e
        · rw [e]; exact List.mem_cons_self
        · exact List.mem_cons_of_mem _ e
    · rw [if_neg h]
      obtain ⟨h1, h2, h3⟩ := minI_le r m
      refine ⟨h1, fun y hy => ?_, ?_⟩
      · rcases List.mem_cons.mp hy with e | e
        · omega
        · exact h2 y e
      · rcases h3 with e | e
        · exact Or.inl e
        · exact Or.inr (List.mem_cons_of_mem _ e)
theorem dec2' {p : Prop} [Decidable p] {α : Type} {x : Option α} {y : α} (h : (if p then x else none) = some y) : p ∧ x = some y := by
  by_cases c : p
  · rw [if_pos c] at h; exact ⟨c, h⟩
  · rw [if_neg c] at h; cases h
theorem cr_len : CallR X (.builtin "len") (rC1 X.K (f1D .len)) := by
  intro pins s σ H xs us Q I r ⟨v, ev, B, x, w, tr, hx, e, q⟩
  subst ev
  cases x with
  | list ds =>
    cases e
    obtain ⟨a, vs, rfl, ha, ra⟩ := hx.list
    exact call_len pins s σ H _ _ Q I r ⟨_, vs.length, rfl, .inl ⟨vs, ha, rfl⟩, by rw [ra.length]; exact q _ _ grow0 (.int _)⟩
  | tuple ds =>
    cases e
    obtain ⟨a, vs, rfl, ha, ra, _⟩ := hx.tuple
    exact call_len pins s σ H _ _ Q I r ⟨_, vs.length, rfl, .inr ⟨vs, ha, rfl⟩, by rw [ra.length]; exact q _ _ grow0 (.int _)⟩
  | str z =>
    obtain ⟨hz, e⟩ := dec2 (show (if z.length ≤ SL then some (Vl.d (.int z.length)) else none) = some w from e)
    cases e
    cases hx.str
    exact call_len pins s σ H _ _ Q I r ⟨_, z.length, rfl, ⟨SL_le hz, rfl⟩, q _ _ grow0 (.int _)⟩
  | none => cases e
  | bool b => cases e
  | int b => cases e
  | dict b => cases e
theorem cr_tuple : CallR X (.type "tuple") (rC1 X.K (f1D .tuple)) := by
  intro pins s σ H xs us Q I r ⟨v, ev, B, x, w, tr, hx, e, q⟩
  subst ev
  cases x with
  | list ds =>
    cases e
    obtain ⟨a, vs, rfl, ha, ra⟩ := hx.list
    exact Pk.call_tupleK pins s σ H _ _ Q I r ⟨a, vs, rfl, .inl ⟨ha, tupEnd tr ra q⟩⟩
  | tuple ds =>
    cases e
    obtain ⟨a, vs, rfl, ha, ra, wa⟩ := hx.tuple
    exact call_tuple_of pins s σ H _ _ Q I r ⟨a, vs, rfl, .inr ⟨ha, q _ _ grow0 wa⟩⟩
  | none => cases e
  | bool b => cases e
  | int b => cases e
  | str b => cases e
  | dict b => cases e
theorem cr_list : CallR X (.type "list") (rC1 X.K (f1D .list)) := by
  intro pins s σ H xs us Q I r ⟨v, ev, B, x, w, tr, hx, e, q⟩
  subst ev
  cases x with
  | list ds =>
    cases e
    obtain ⟨a, vs, rfl, ha, ra⟩ := hx.list
    exact call_list_of pins s σ H _ _ Q I r ⟨a, vs, rfl, .inl ha, fun p n => lstEnd ra q n⟩
  | tuple ds =>
    cases e
    obtain ⟨a, vs, rfl, ha, ra, wa⟩ := hx.tuple
    exact call_list_of pins s σ H _ _ Q I r ⟨a, vs, rfl, .inr ha, fun p n => lstEnd ra q n⟩
  | none => cases e
  | bool b => cases e
  | int b => cases e
  | str b => cases e
  | dict b => cases e
theorem cr_int : CallR X (.type "int") (rC1 X.K (f1D .int)) := by
  intro pins s σ H xs us Q I r ⟨v, ev, B, x, w, tr, hx, e, q⟩
  subst ev
  cases x with
  | int i =>
    cases e
    cases hx.int
    exact call_int1 pins s σ H _ _ Q I r (.inl ⟨i, rfl, q _ _ grow0 (.int _)⟩)
  | bool b =>
    cases e
    cases hx.bool
    exact call_int1 pins s σ H _ _ Q I r (.inr ⟨b, rfl, q _ _ grow0 (.int _)⟩)
  | str z =>
    obtain ⟨hz, e⟩ := dec2' (show (if z.length ≤ 640 then (PySem.intText? z).map fun n => Vl.d (.int n) else none) = some w from e)
    obtain ⟨n, e1, rfl⟩ := Option.map_eq_some_iff.mp e
    cases hx.str
    exact call_int_str pins s σ H _ _ Q I r ⟨z, n, rfl, e1, hz, q _ _ grow0 (.int _)⟩
  | none => cases e
  | list b => cases e
  | tuple b => cases e
  | dict b => cases e
theorem cr_str : CallR X (.type "str") (rC1 X.K (f1D .str)) := by
  intro pins s σ H xs us Q I r ⟨v, ev, B, x, w, tr, hx, e, q⟩
  subst ev
  cases x with
  | int i =>
    obtain ⟨hz, e⟩ := dec2 (show (if i.natAbs.log2 < 1920 then some (Vl.d (.str (Str.ofString (toString i)))) else none) = some w from e)
    cases e
    cases hx.int
    exact call_str_int pins s σ H _ _ Q I r ⟨i, rfl, hz, q _ _ grow0 (.str _)⟩
  | bool b => cases e
  | none => cases e
  | list b => cases e
  | tuple b => cases e
  | str b => cases e
  | dict b => cases e
/-! sorted -/
theorem insD_perm (x : D) : ∀ ys : List D, (insD x ys).Perm (x :: ys)
  | [] => List.Perm.refl _
  | y :: ys => by
    unfold insD
    split
    · exact ((insD_perm x ys).cons y).trans (List.Perm.swap x y ys)
    · exact List.Perm.refl _
theorem isortD_perm : ∀ xs : List D, (isortD xs).Perm xs
  | [] => List.Perm.refl _
  | x :: xs => (insD_perm x _).trans ((isortD_perm xs).cons x)
abbrev leS : D → D → Bool := PySem.W.dataLe false (fun x : D => x)
theorem leS_eq (x y : D) : leS x y = !PySem.W.dataLt y x := by
  show PySem.W.dataLe false (fun x : D => x) x y = _
  rw [PySem.W.dataLe_eq]; rfl
theorem leS_total : PySem.W.TotalLe leS := PySem.W.sortLe_total _ _ _
theorem insD_sorted (x : D) : ∀ ys : List D, ys.Pairwise (fun a b => leS a b = true) → (insD x ys).Pairwise (fun a b => leS a b = true)
  | [], _ => List.pairwise_singleton _ _
  | y :: ys, h => by
    obtain ⟨h1, h2⟩ := List.pairwise_cons.mp h
    unfold insD
    split
    · rename_i hlt
      refine List.pairwise_cons.mpr ⟨fun z hz => ?_, insD_sorted x ys h2⟩
      rcases List.mem_cons.mp ((insD_perm x ys).mem_iff.mp hz) with rfl | hz
      · rcases leS_total.total y z with e | e
        · exact e
        · rw [leS_eq, hlt] at e; cases e
      · exact h1 z hz
    · rename_i hlt
      have hle : leS x y = true := by rw [leS_eq]; simpa using hlt
      refine List.pairwise_cons.mpr ⟨fun z hz => ?_, h⟩
      rcases List.mem_cons.mp hz with rfl | hz
      · exact hle
      · exact leS_total.trans _ _ _ hle (h1 z hz)
theorem insD_filter (x c : D) : ∀ ys : List D, ys.Pairwise (fun a b => leS a b = true) → (insD x ys).filter (PySem.W.sameRank leS c) = (x :: ys).filter (PySem.W.sameRank leS c)
  | [], _ => rfl
  | y :: ys, h => by
    obtain ⟨h1, h2⟩ := List.pairwise_cons.mp h
    unfold insD
    split
    · rename_i hlt
      rw [List.filter_cons, insD_filter x c ys h2, List.filter_cons, List.filter_cons, List.filter_cons]
      by_cases hx : PySem.W.sameRank leS c x = true
      · by_cases hy : PySem.W.sameRank leS c y = true
        · exfalso
          unfold PySem.W.sameRank at hx hy
          rw [Bool.and_eq_true] at hx hy
          have : leS x y = true := leS_total.trans _ _ _ hx.2 hy.1
          rw [leS_eq, hlt] at this; cases this
        · simp [hx, hy]
      · simp [hx]
    · rfl
theorem isortD_sorted : ∀ xs : List D, (isortD xs).Pairwise (fun a b => leS a b = true)
  | [] => .nil
  | x :: xs => insD_sorted x _ (isortD_sorted xs)
theorem isortD_filter (c : D) : ∀ xs : List D, (isortD xs).filter (PySem.W.sameRank leS c) = xs.filter (PySem.W.sameRank leS c)
  | [] => rfl
  | x :: xs => by
    show (insD x (isortD xs)).filter _ = _
    rw [insD_filter x c _ (isortD_sorted xs), List.filter_cons, List.filter_cons, isortD_filter c xs]
theorem isortD_merge (xs : List D) : isortD xs = xs.mergeSort leS := PySem.W.sort_unique leS_total (isortD_sorted xs) fun c => isortD_filter c xs
theorem sortOk_of {xs : List D} (h : sortOk xs = true) : (∀ x ∈ xs, okD x = true) ∧ PySem.W.AllAlike xs ∧ PySem.W.Sortable xs ∧ xs.length ≤ SL := by
  unfold sortOk at h
  simp only [Bool.and_eq_true, List.all_eq_true, decide_eq_true_eq, Bool.or_eq_true] at h
  obtain ⟨⟨⟨h1, h2⟩, h3⟩, h4⟩ := h
  refine ⟨h1, fun x hx y hy => h2 x hx y hy, ?_, h4⟩
  rcases h3 with h3 | h3
  · refine .inl fun d hd => ?_
    have := h3 d hd
    cases d with
    | tuple l =>
      cases l with
      | nil => cases this
      | cons a b => exact ⟨a, b, rfl⟩
    | _ => cases this
  · refine .inr fun d hd => ?_
    have := h3 d hd
    cases d <;> first | (cases this; done) | exact ⟨fun z => (by cases z), fun _ z => (by cases z)⟩
theorem each_of {B : Addr → Prop} {K : PySem.W.Frag} {H : Hp} : ∀ {vs : List V} {us : List Value} {ds : List D}, Vals vs us → RpAll K B H vs ds → PySem.W.EachIs (fun u d => ∃ v, RelV v u ∧ Rp K B H v d) us ds
  | _, _, _, .nil, .nil => .nil
  | _, _, _, .cons r t, .cons h g => .cons ⟨_, r, h⟩ (each_of t g)
theorem of_each {B : Addr → Prop} {K : PySem.W.Frag} {H : Hp} : ∀ {us : List Value} {ds : List D}, PySem.W.EachIs (fun u d => ∃ v, RelV v u ∧ Rp K B H v d) us ds → ∃ vs, Vals vs us ∧ RpAll K B H vs ds
  | _, _, .nil => ⟨[], .nil, .nil⟩
  | _, _, .cons ⟨v, r, h⟩ t => by
    obtain ⟨vs, r1, h1⟩ := of_each t
    exact ⟨v :: vs, .cons r r1, .cons h h1⟩
theorem cr_sorted (hu : X.A.units + 64 < cLine) : CallR X (.builtin "sorted") (rC1 X.K (f1D .sorted)) := by
  intro pins s σ H xs us Q I r ⟨v, ev, B, x, w, tr, hx, e, q⟩
  subst ev
  cases x with
  | list ds =>
    obtain ⟨ys, e1, rfl⟩ := Option.map_eq_some_iff.mp (show (sortD ds).map (fun ys => Vl.fr (.list ys)) = some w from e)
    obtain ⟨hok, e2⟩ := dec2 (show (if sortOk ds = true then some (isortD ds) else none) = some ys from e1)
    subst e2
    obtain ⟨o1, o2, o3, o4⟩ := sortOk_of hok
    obtain ⟨a, vs, rfl, ha, ra⟩ := hx.list
    obtain ⟨its, rv, hl, hz⟩ := I.list ha
    rw [Vals.ref1 r]
    have e0 := each_of rv ra
    have er : PySem.W.EachIs (fun u d => ∃ as, Reads s.heap u ((fun x : D => x) d) as) its ds := by
      have : ∀ {us : List Value} {l : List D}, PySem.W.EachIs (fun u d => ∃ v, RelV v u ∧ Rp X.K B H v d) us l → (∀ x ∈ l, okD x = true) → PySem.W.EachIs (fun u d => ∃ as, Reads s.heap u ((fun x : D => x) d) as) us l := by
        intro us l h
        induction h with
        | nil => exact fun _ => .nil
        | cons h t ih =>
          intro ho
          obtain ⟨v, r1, h1⟩ := h
          refine .cons ?_ (ih fun x hx => ho x (List.mem_cons_of_mem _ hx))
          have h2 := ho _ List.mem_cons_self
          unfold okD at h2
          rw [Bool.and_eq_true] at h2
          exact Dp.reads I _ v _ (h1.dp h2.1) r1
      exact this e0 o1
    refine PySem.W.sorted_data (enc := fun x : D => x) (bs := ds) (R := fun u d => ∃ v, RelV v u ∧ Rp X.K B H v d) hl.isList e0 er (by rw [List.map_id']; exact o2) (by rw [List.map_id']; exact o3) (SL_le o4) (fun d hd => ?_) fun out h1 h2 => ?_
    · have h2 := o1 d hd
      unfold okD at h2
      rw [Bool.and_eq_true, decide_eq_true_eq] at h2
      have := h2.2
      show X.A.units + 2 + d.depth < cLine
      omega
    · obtain ⟨vs', r1, r2⟩ := of_each h2
      rw [← isortD_merge ds] at r2
      obtain ⟨ep, he'⟩ := PyProof.Rows.sortedAll_at s.heap its out.toArray
      have hlen : vs'.length ≤ sizeLine := by rw [r2.length, (isortD_perm ds).length_eq]; exact SL_le o4
      have hn := I.hok.fresh (Nat.le_succ s.heap.objs.size)
      refine ⟨.ref _, upd H (s.heap.objs.size + 1) (.lst vs'), I.laid (t' := s.toks) (fun _ _ => PyProof.Rows.sortedAll_old) (Nat.le_succ _) ⟨hlen, out, ep, r1, he'⟩, rfl, lstEnd r2 q hn⟩
  | none => cases e
  | bool b => cases e
  | int b => cases e
  | str b => cases e
  | tuple b => cases e
  | dict b => cases e
theorem cr_abs : CallR X (.builtin "abs") (rC1 X.K (f1D .abs)) := by
  intro pins s σ H xs us Q I r ⟨v, ev, B, x, w, tr, hx, e, q⟩
  subst ev
  cases x with
  | int i =>
    cases e
    cases hx.int
    exact call_abs pins s σ H _ _ Q I r ⟨i, rfl, q _ _ grow0 (.int _)⟩
  | bool b => cases e
  | none => cases e
  | list b => cases e
  | tuple b => cases e
  | str b => cases e
  | dict b => cases e
theorem cr_sumP (hc : X.calm = true) : CallR X (.builtin "sum") (rC1 X.K (f1D .sum)) := by
  intro pins s σ H xs us Q I r ⟨v, ev, B, x, w, tr, hx, e, q⟩
  subst ev
  cases x with
  | list ds =>
    obtain ⟨ns, e1, e⟩ := Option.map_eq_some_iff.mp (show (intsD ds).map (fun ns => Vl.d (.int ns.sum)) = some w from e)
    cases e
    obtain ⟨a, vs, rfl, ha, ra⟩ := hx.list
    cases rp_ints ra e1
    exact cr_sum hc pins s σ H _ _ Q I r ⟨a, ns, rfl, ha, q _ _ grow0 (.int _)⟩
  | int i => cases e
  | bool b => cases e
  | none => cases e
  | tuple ds =>
    obtain ⟨ns, e1, e⟩ := Option.map_eq_some_iff.mp (show (intsD ds).map (fun ns => Vl.d (.int ns.sum)) = some w from e)
    cases e
    obtain ⟨a, vs, rfl, ha, ra, _⟩ := hx.tuple
    cases rp_ints ra e1
    exact Pk.cr_sumT hc pins s σ H _ _ Q I r ⟨a, ns, rfl, ha, q _ _ grow0 (.int _)⟩
  | str b => cases e
  | dict b => cases e
theorem cr_allP (hc : X.calm = true) : CallR X (.builtin "all") (rC1 X.K (f1D .all)) := by
  intro pins s σ H xs us Q I r ⟨v, ev, B, x, w, tr, hx, e, q⟩
  subst ev
  cases x with
  | list ds =>
    obtain ⟨ns, e1, e⟩ := Option.map_eq_some_iff.mp (show (boolsD ds).map (fun bs => Vl.d (.bool (bs.all id))) = some w from e)
    cases e
    obtain ⟨a, vs, rfl, ha, ra⟩ := hx.list
    cases rp_bools ra e1
    exact cr_all hc pins s σ H _ _ Q I r ⟨a, ns, rfl, ha, q _ _ grow0 (.bl _)⟩
  | int i => cases e
  | bool b => cases e
  | none => cases e
  | tuple b => cases e
  | str b => cases e
  | dict b => cases e
theorem cr_anyP (hc : X.calm = true) : CallR X (.builtin "any") (rC1 X.K (f1D .any)) := by
  intro pins s σ H xs us Q I r ⟨v, ev, B, x, w, tr, hx, e, q⟩
  subst ev
  cases x with
  | list ds =>
    obtain ⟨ns, e1, e⟩ := Option.map_eq_some_iff.mp (show (boolsD ds).map (fun bs => Vl.d (.bool (bs.any id))) = some w from e)
    cases e
    obtain ⟨a, vs, rfl, ha, ra⟩ := hx.list
    cases rp_bools ra e1
    exact cr_any hc pins s σ H _ _ Q I r ⟨a, ns, rfl, ha, q _ _ grow0 (.bl _)⟩
  | int i => cases e
  | bool b => cases e
  | none => cases e
  | tuple b => cases e
  | str b => cases e
  | dict b => cases e
theorem maxOf_eq : ∀ (r : List Int) (n : Int), PySem.W.maxOf n r = maxI n r
  | [], _ => rfl
  | x :: r, n => by
    show PySem.W.maxOf (if PySem.W.DatumOrd.lt n x = true then x else n) r = maxI (if x > n then x else n) r
    rw [maxOf_eq r]
    congr 1
    show (if decide (n < x) = true then x else n) = _
    by_cases h : n < x
    · rw [if_pos (decide_eq_true h), if_pos h]
    · rw [if_neg (by simpa using h), if_neg h]
theorem minOf_eq : ∀ (r : List Int) (n : Int), PySem.W.minOf n r = minI n r
  | [], _ => rfl
  | x :: r, n => by
    show PySem.W.minOf (if PySem.W.DatumOrd.lt x n = true then x else n) r = minI (if x < n then x else n) r
    rw [minOf_eq r]
    congr 1
    show (if decide (x < n) = true then x else n) = _
    by_cases h : x < n
    · rw [if_pos (decide_eq_true h), if_pos h]
    · rw [if_neg (by simpa using h), if_neg h]
theorem cr_maxP (hc : X.calm = true) (hu : X.A.units + 64 < cLine) : CallR X (.builtin "max") (rC1 X.K (f1D .max)) := by
  intro pins s σ H xs us Q I r ⟨v, ev, B, x, w, tr, hx, e, q⟩
  subst ev
  cases x with
  | list ds =>
    obtain ⟨ns, e1, e⟩ := Option.bind_eq_some_iff.mp (show (intsD ds).bind (fun ns => match ns with | [] => none | n :: r => some (.d (.int (maxI n r)))) = some w from e)
    obtain ⟨a, vs, rfl, ha, ra⟩ := hx.list
    cases rp_ints ra e1
    cases ns with
    | nil => cases e
    | cons n ms =>
      cases e
      refine cr_max hc pins s σ H _ _ Q I r ⟨a, n :: ms, rfl, ha, by simp, fun m h1 h2 => ?_⟩
      obtain ⟨g1, g2, g3⟩ := maxI_ge ms n
      have : m = maxI n ms := by
        refine Int.le_antisymm ?_ (h2 _ ?_)
        · rcases List.mem_cons.mp h1 with e | e
          · rw [e]; exact g1
          · exact g2 m e
        · rcases g3 with e | e
          · rw [e]; exact List.mem_cons_self
          · exact List.mem_cons_of_mem _ e
      rw [this]
      exact q _ _ grow0 (.int _)
  | int i => cases e
  | bool b => cases e
  | none => cases e
  | tuple ds =>
    obtain ⟨ns, e1, e⟩ := Option.bind_eq_some_iff.mp (show (intsD ds).bind (fun ns => match ns with | [] => none | n :: r => some (.d (.int (maxI n r)))) = some w from e)
    obtain ⟨a, vs, rfl, ha, ra, _⟩ := hx.tuple
    cases rp_ints ra e1
    cases ns with
    | nil => cases e
    | cons n ms =>
      cases e
      refine Pk.cr_maxT hc (by omega) pins s σ H _ _ Q I r ⟨a, n, ms, rfl, ha, ?_⟩
      rw [maxOf_eq]
      exact q _ _ grow0 (.int _)
  | str b => cases e
  | dict b => cases e
theorem cr_minP (hc : X.calm = true) (hu : X.A.units + 64 < cLine) : CallR X (.builtin "min") (rC1 X.K (f1D .min)) := by
  intro pins s σ H xs us Q I r ⟨v, ev, B, x, w, tr, hx, e, q⟩
  subst ev
  cases x with
  | list ds =>
    obtain ⟨ns, e1, e⟩ := Option.bind_eq_some_iff.mp (show (intsD ds).bind (fun ns => match ns with | [] => none | n :: r => some (.d (.int (minI n r)))) = some w from e)
    obtain ⟨a, vs, rfl, ha, ra⟩ := hx.list
    cases rp_ints ra e1
    cases ns with
    | nil => cases e
    | cons n ms =>
      cases e
      refine cr_min hc pins s σ H _ _ Q I r ⟨a, n :: ms, rfl, ha, by simp, fun m h1 h2 => ?_⟩
      obtain ⟨g1, g2, g3⟩ := minI_le ms n
      have : m = minI n ms := by
        refine Int.le_antisymm (h2 _ ?_) ?_
        · rcases g3 with e | e
          · rw [e]; exact List.mem_cons_self
          · exact List.mem_cons_of_mem _ e
        · rcases List.mem_cons.mp h1 with e | e
          · rw [e]; exact g1
          · exact g2 m e
      rw [this]
      exact q _ _ grow0 (.int _)
  | int i => cases e
  | bool b => cases e
  | none => cases e
  | tuple ds =>
    obtain ⟨ns, e1, e⟩ := Option.bind_eq_some_iff.mp (show (intsD ds).bind (fun ns => match ns with | [] => none | n :: r => some (.d (.int (minI n r)))) = some w from e)
    obtain ⟨a, vs, rfl, ha, ra, _⟩ := hx.tuple
    cases rp_ints ra e1
    cases ns with
    | nil => cases e
    | cons n ms =>
      cases e
      refine Pk.cr_minT hc (by omega) pins s σ H _ _ Q I r ⟨a, n, ms, rfl, ha, ?_⟩
      rw [minOf_eq]
      exact q _ _ grow0 (.int _)
  | str b => cases e
  | dict b => cases e
/-- the name of a built-in of one argument, and whether it is a class -/
def F1.name : F1 → Str × Bool
  | .len => ("len", false) | .tuple => ("tuple", true) | .list => ("list", true) | .int => ("int", true) | .abs => ("abs", false)
  | .sum => ("sum", false) | .all => ("all", false) | .any => ("any", false) | .max => ("max", false) | .min => ("min", false)
  | .sorted => ("sorted", false) | .str => ("str", true) | .sset => ("sorted", false) | .lset => ("len", false)
theorem none_call {f : Value} {g : D → Option Vl} (h : ∀ x, g x = none) : CallR X f (rC1 X.K g) := by
  intro pins s σ H xs us Q I r ⟨v, ev, B, x, w, tr, hx, e, q⟩
  rw [h] at e; cases e
theorem pe_f1 {f : F1} {e : Expr} {fa : Ev → Sto → Option (D × Sto)} {p pos : Pos} (hc : X.calm = true) (hu : X.A.units + 64 < cLine) (hg : Gl X f.name.1) (hm : X.mg f.name.1 = none) (ha : PE X e (SemB X.K fa)) (he : starEach [e] X.env = [(false, eval e X.env)]) (hf : f ≠ .sset ∧ f ≠ .lset) :
    PE X (.Call (.Name f.name.1 p) [e] [] pos) (SemE X.K fun env st => bnd (fa env st) fun x s => ret (f1D f x) s) := by
  have hs : starEach [e] X.env = (false, eval e X.env) :: starEach [] X.env := he
  have nf : ∀ x w, f1D f x = some w → NoRf w := fun x w h n hn => by
    subst hn
    revert h
    cases f <;> cases x <;> simp [f1D] <;> (try split) <;> (try simp)
    all_goals (intro h; obtain ⟨ns, _, h⟩ := Option.bind_eq_some_iff.mp h; cases ns <;> cases h)
  have im : ∀ σ H Q, SemE X.K (fun env st => bnd (fa env st) fun x s => ret (f1D f x) s) σ H Q → tCB (rC1 X.K (f1D f)) (tCons (SemB X.K fa) tNil) σ H Q := fun σ H Q h => by
    obtain ⟨M, U, st, env, x, s, er, e1, k⟩ := sem_fn (f := f1D f) nf σ H Q h
    exact ⟨M, U, st, env, x, s, er, e1, fun v H' M' s1 so r => ⟨v, rfl, k v H' M' s1 so r⟩⟩
  have pa : PA X [e] (tCons (SemB X.K fa) tNil) := pa_cons ha pa_nil hs
  cases f with
  | len => exact peImp (pe_callB cr_len hg hm PySem.boot_len pa (by decide +kernel) (by decide +kernel) hs rfl) im
  | tuple => exact peImp (pe_callTy cr_tuple hg hm (by decide +kernel) pa (by decide +kernel) (by decide +kernel) hs rfl) im
  | list => exact peImp (pe_callTy cr_list hg hm (by decide +kernel) pa (by decide +kernel) (by decide +kernel) hs rfl) im
  | int => exact peImp (pe_callTy cr_int hg hm (by decide +kernel) pa (by decide +kernel) (by decide +kernel) hs rfl) im
  | abs => exact peImp (pe_callB cr_abs hg hm (by decide +kernel) pa (by decide +kernel) (by decide +kernel) hs rfl) im
  | sum => exact peImp (pe_callB (cr_sumP hc) hg hm (by decide +kernel) pa (by decide +kernel) (by decide +kernel) hs rfl) im
  | all => exact peImp (pe_callB (cr_allP hc) hg hm (by decide +kernel) pa (by decide +kernel) (by decide +kernel) hs rfl) im
  | any => exact peImp (pe_callB (cr_anyP hc) hg hm (by decide +kernel) pa (by decide +kernel) (by decide +kernel) hs rfl) im
  | max => exact peImp (pe_callB (cr_maxP hc hu) hg hm (by decide +kernel) pa (by decide +kernel) (by decide +kernel) hs rfl) im
  | min => exact peImp (pe_callB (cr_minP hc hu) hg hm (by decide +kernel) pa (by decide +kernel) (by decide +kernel) hs rfl) im
  | sorted => exact peImp (pe_callB (cr_sorted hu) hg hm (by decide +kernel) pa (by decide +kernel) (by decide +kernel) hs rfl) im
  | str => exact peImp (pe_callTy cr_str hg hm (by decide +kernel) pa (by decide +kernel) (by decide +kernel) hs rfl) im
  | sset => exact absurd rfl hf.1
  | lset => exact absurd rfl hf.2
end
end Pi

end
section
set_option Elab.async false
set_option linter.all false
set_option maxRecDepth 100000
set_option maxHeartbeats 1000000
namespace Pi
open PySem PySem.Spec PyProof.Rows L2
/-- the forms that an expression of ours has: no star, no slice, no set -/
def nice : Expr → Bool
  | .Starred .. => false
  | .Slice .. => false
  | .Set .. => false
  | _ => true
section
variable {X : Cx} {K : PySem.W.Frag}
theorem star1 {x : Expr} (h : nice x = true) (xs : List Expr) (env : Env) : starEach (x :: xs) env = (false, eval x env) :: starEach xs env := by cases x <;> first | rfl | cases h
theorem few1 {x : Expr} (n : nice x = true) (cp : Pos) (env : Env) : ((backTo cp (starEach [x] env)).all (fun x => !x.1) && (backToKw cp (keywordEach [] env)).all (fun x => x.1.isSome)
      && decide (([x] : List Expr).length + ([] : List Keyword).length + (if ([] : List Keyword).isEmpty then 0 else 1) < 30)) = true := by
  rw [star1 n [] env]; rfl
theorem plainIx {x : Expr} (h : nice x = true) : PlainIx x := fun o i => by cases x <;> first | rfl | cases h
theorem noMark {x : Expr} (h : nice x = true) (op : CmpOp) : behindInMarks op x = false := by cases x <;> first | rfl | cases h
theorem noFold {x : Expr} (h : nice x = true) (env : Env) (v : Value) : foldedSetIterable x env v = pure v := by cases x <;> first | rfl | cases h
theorem join_some {o : Option (Option V)} {v : V} (h : o.join = some v) : o = some (some v) := by
  cases o with
  | none => cases h
  | some w => cases h; rfl
/-! ### constants and names -/
theorem se_const {e : Expr} {v : V} {x : D} (h : PE X e (tC v)) (r : ∀ B H, Rp K B H v x) : PE X e (SemE K fun _ st => some (.d x, st)) := peImp h fun σ H Q ⟨M, U, st, env, w, s, er, ex, q⟩ => by
  cases ex
  exact q v H M Stp.refl er.sto (r _ _)
theorem se_var {i : Nat} {x : Str} {pos : Pos} (hN : X.N[i]? = some x) (hv : Vis X.env.scope x) (hd : (x == ("__debug__" : Str)) = false) (hcd : (x == ("__classdict__" : Str)) = false) :
    PE X (.Name x pos) (SemE K fun env st => match look env i with | .sh y => some (.d y, st) | .rf n => some (.rf n, st) | _ => none) := peImp (pe_var hN hv hd hcd) fun σ H Q ⟨M, U, st, env, w, s, er, ex, q⟩ => by
  have h := er.env i
  dsimp only at ex
  cases hl : look env i with
  | sh y =>
    rw [hl] at h ex
    cases ex
    obtain ⟨v, e, r⟩ := h
    exact ⟨v, join_some e, q v H M Stp.refl er.sto r⟩
  | rf n =>
    rw [hl] at h ex
    cases ex
    obtain ⟨a, e, e2⟩ := h
    exact ⟨_, join_some e2, q a H M Stp.refl er.sto e⟩
  | no => rw [hl] at ex; cases ex
  | ow y => rw [hl] at ex; cases ex
  | lk y => rw [hl] at ex; cases ex
theorem sb_var {i : Nat} {x : Str} {pos : Pos} {r : Option (Vl × Sto)} (hN : X.N[i]? = some x) (hv : Vis X.env.scope x) (hd : (x == ("__debug__" : Str)) = false) (hcd : (x == ("__classdict__" : Str)) = false) :
    PE X (.Name x pos) (SemB K fun env st => match look env i with | .sh x => some (x, st) | .ow x => some (x, st) | .lk x => some (x, st) | _ => none) := peImp (pe_var hN hv hd hcd) fun σ H Q ⟨M, U, st, env, w, s, er, ex, q⟩ => by
  have h := er.env i
  dsimp only at ex
  cases hl : look env i with
  | sh y =>
    rw [hl] at h ex
    cases ex
    obtain ⟨v, e, r⟩ := h
    exact ⟨v, join_some e, q v H M Stp.refl er.sto (.inl r)⟩
  | rf n => rw [hl] at ex; cases ex
  | no => rw [hl] at ex; cases ex
  | ow y =>
    rw [hl] at h ex
    cases ex
    obtain ⟨a, e, u, r⟩ := h
    exact ⟨_, join_some e, q _ H M Stp.refl er.sto (.inr ⟨a, rfl, ⟨u, i, _, .inl hl, e⟩, r⟩)⟩
  | lk y =>
    rw [hl] at h ex
    cases ex
    obtain ⟨a, e, u, r⟩ := h
    exact ⟨_, join_some e, q _ H M Stp.refl er.sto (.inr ⟨a, rfl, ⟨u, i, _, .inr hl, e⟩, r⟩)⟩
/-! ### several trees -/
def SemL (K : PySem.W.Frag) (f : Ev → Sto → Option (List D × Sto)) : TA := fun σ H Q => ∃ M U st env xs st', ER K M U H st σ env ∧ f env st = some (xs, st') ∧
  ∀ vs H' M', Stp M H M' H' → StoOk K M' U H' st' → RpAll K (Bar M' U) H' vs xs → Q vs H'
theorem paImp {es : List Expr} {t t' : TA} (h : PA X es t) (f : ∀ σ H Q, t' σ H Q → t σ H Q) : PA X es t' := ⟨fun pos pins s σ H Q I q => h.run pos pins s σ H Q I (f σ H Q q)⟩
theorem sl_nil : PA X [] (SemL K fun _ st => some ([], st)) := paImp pa_nil fun σ H Q ⟨M, U, st, env, w, s, er, ex, q⟩ => by
  cases ex
  exact q [] H M Stp.refl er.sto .nil
theorem sl_cons {e : Expr} {es : List Expr} {f : Ev → Sto → Option (D × Sto)} {g : Ev → Sto → Option (List D × Sto)} (n : nice e = true) (he : PE X e (SemD K f)) (hes : PA X es (SemL K g)) :
    PA X (e :: es) (SemL K fun env st => bnd (f env st) fun x s => bnd (g env s) fun xs s' => some (x :: xs, s')) := paImp (pa_cons he hes (star1 n es _)) fun σ H Q ⟨M, U, st, env, w, s, er, ex, q⟩ => by
  obtain ⟨x, s1, e1, ex⟩ := bnd_eq ex
  obtain ⟨xs, s2, e2, ex⟩ := bnd_eq ex
  cases ex
  exact ⟨M, U, st, env, x, s1, er, e1, fun v H1 M1 p1 so1 r1 => ⟨M1, U, s1, env, xs, _, er.step p1 so1, e2, fun vs H2 M2 p2 so2 r2 => q _ H2 M2 (p1.trans p2) so2 (.cons (r1.step p2) r2)⟩⟩
/-- arguments of a call -/
def VsR (K : PySem.W.Frag) (M : List Addr) (U : Addr → Prop) (H : Hp) : V → Vl → Prop := fun v w => match w with
  | .d x => Rp K (Bar M U) H v x
  | .fr _ => False
  | .rf n => ∃ a, M[n]? = some a ∧ v = .ref a
inductive VsAll (K : PySem.W.Frag) (M : List Addr) (U : Addr → Prop) (H : Hp) : List V → List Vl → Prop
  | nil : VsAll K M U H [] []
  | cons {v : V} {w : Vl} {vs : List V} {ws : List Vl} : VsR K M U H v w → VsAll K M U H vs ws → VsAll K M U H (v :: vs) (w :: ws)
theorem VsR.step {M M' : List Addr} {U : Addr → Prop} {H H' : Hp} (s : Stp M H M' H') {v : V} {w : Vl} (h : VsR K M U H v w) : VsR K M' U H' v w := by
  cases w with
  | d x => exact Rp.step s h
  | fr x => exact h.elim
  | rf n =>
    obtain ⟨a, e, q⟩ := h
    refine ⟨a, ?_, q⟩
    obtain ⟨t, rfl⟩ := s.pre
    rw [List.getElem?_append_left (List.getElem?_eq_some_iff.mp e).1]
    exact e
theorem VsAll.step {M M' : List Addr} {U : Addr → Prop} {H H' : Hp} (s : Stp M H M' H') : ∀ {vs : List V} {ws : List Vl}, VsAll K M U H vs ws → VsAll K M' U H' vs ws
  | _, _, .nil => .nil
  | _, _, .cons h r => .cons (h.step s) (r.step s)
theorem VsAll.length {M : List Addr} {U : Addr → Prop} {H : Hp} : ∀ {vs : List V} {ws : List Vl}, VsAll K M U H vs ws → vs.length = ws.length
  | _, _, .nil => rfl
  | _, _, .cons _ r => congrArg (· + 1) r.length
theorem VsAll.append {M : List Addr} {U : Addr → Prop} {H : Hp} : ∀ {vs us : List V} {ws zs : List Vl}, VsAll K M U H vs ws → VsAll K M U H us zs → VsAll K M U H (vs ++ us) (ws ++ zs)
  | _, _, _, _, .nil, h => h
  | _, _, _, _, .cons h r, g => .cons h (r.append g)
theorem VsAll.get {M : List Addr} {U : Addr → Prop} {H : Hp} : ∀ {vs : List V} {ws : List Vl}, VsAll K M U H vs ws → ∀ {i : Nat} {w : Vl}, ws[i]? = some w → ∃ v, vs[i]? = some v ∧ VsR K M U H v w
  | _, _, .nil, i, d, h => by simp at h
  | _, _, .cons h r, 0, d, e => by simp at e; subst e; exact ⟨_, rfl, h⟩
  | _, _, .cons _ r, i + 1, d, e => by
    obtain ⟨v, h1, h2⟩ := r.get (i := i) (by simpa using e)
    exact ⟨v, by simpa using h1, h2⟩
theorem VsAll.pick {M : List Addr} {U : Addr → Prop} {H : Hp} {vs : List V} {ws : List Vl} (h : VsAll K M U H vs ws) : ∀ {pm : List Nat} {us : List Vl}, pick ws pm = some us → ∃ zs, pick vs pm = some zs ∧ VsAll K M U H zs us
  | [], _, e => by cases e; exact ⟨[], rfl, .nil⟩
  | i :: is, us, e => by
    obtain ⟨w, e1, e⟩ := Option.bind_eq_some_iff.mp (show (ws[i]?).bind (fun x => (Pi.pick ws is).map (x :: ·)) = some us from e)
    obtain ⟨us', e2, rfl⟩ := Option.map_eq_some_iff.mp e
    obtain ⟨v, h1, h2⟩ := h.get e1
    obtain ⟨zs, h3, h4⟩ := h.pick e2
    refine ⟨v :: zs, ?_, .cons h2 h4⟩
    show (vs[i]?).bind (fun x => (Pi.pick vs is).map (x :: ·)) = _
    rw [h1, h3]; rfl
def SemA (K : PySem.W.Frag) (f : Ev → Sto → Option (List Vl × Sto)) : TA := fun σ H Q => ∃ M U st env ws st', ER K M U H st σ env ∧ f env st = some (ws, st') ∧
  ∀ vs H' M', Stp M H M' H' → StoOk K M' U H' st' → VsAll K M' U H' vs ws → Q vs H'
theorem sa_nil : PA X [] (SemA K fun _ st => some ([], st)) := paImp pa_nil fun σ H Q ⟨M, U, st, env, w, s, er, ex, q⟩ => by
  cases ex
  exact q [] H M Stp.refl er.sto .nil
theorem arg_post {M : List Addr} {U : Addr → Prop} {H : Hp} {st : Sto} {w : Vl} {Q : VK} (tr : ∀ a, U a → ∃ o, H a = some o) (q : ∀ v H' M', Stp M H M' H' → StoOk K M' U H' st → VsR K M' U H' v (argV w) → Q v H') : EPost K M U H st w Q := by
  cases w with
  | d x => exact q
  | fr x => exact EPost.toD tr (x := x) rfl q
  | rf n => exact fun a H' M' s so e => q _ H' M' s so ⟨a, e, rfl⟩
theorem sa_cons {e : Expr} {es : List Expr} {f : Ev → Sto → Option (Vl × Sto)} {g : Ev → Sto → Option (List Vl × Sto)} (n : nice e = true) (he : PE X e (SemE K f)) (hes : PA X es (SemA K g)) :
    PA X (e :: es) (SemA K fun env st => bnd (f env st) fun x s => bnd (g env s) fun xs s' => some (argV x :: xs, s')) := paImp (pa_cons he hes (star1 n es _)) fun σ H Q ⟨M, U, st, env, w, s, er, ex, q⟩ => by
  obtain ⟨x, s1, e1, ex⟩ := bnd_eq ex
  obtain ⟨xs, s2, e2, ex⟩ := bnd_eq ex
  cases ex
  exact ⟨M, U, st, env, x, s1, er, e1, arg_post er.sto.tr fun v H1 M1 p1 so1 r1 => ⟨M1, U, s1, env, xs, _, er.step p1 so1, e2, fun vs H2 M2 p2 so2 r2 => q _ H2 M2 (p1.trans p2) so2 (.cons (r1.step p2) r2)⟩⟩
/-- the keywords' values -/
theorem pkImp {ks : List Keyword} {t t' : TA} (h : PK X ks t) (f : ∀ σ H Q, t' σ H Q → t σ H Q) : PK X ks t' := ⟨fun pos pins s σ H Q I q => h.run pos pins s σ H Q I (f σ H Q q)⟩
theorem sk_nil : PK X [] (SemA K fun _ st => some ([], st)) := pkImp pk_nil fun σ H Q ⟨M, U, st, env, w, s, er, ex, q⟩ => by
  cases ex
  exact q [] H M Stp.refl er.sto .nil
theorem sk_cons {e : Expr} {ks : List Keyword} {nm : Option Str} {kpos : Pos} {f : Ev → Sto → Option (Vl × Sto)} {g : Ev → Sto → Option (List Vl × Sto)} (he : PE X e (SemE K f)) (hes : PK X ks (SemA K g)) :
    PK X (⟨nm, e, kpos⟩ :: ks) (SemA K fun env st => bnd (f env st) fun x s => bnd (g env s) fun xs s' => some (argV x :: xs, s')) := pkImp (pk_cons he hes) fun σ H Q ⟨M, U, st, env, w, s, er, ex, q⟩ => by
  obtain ⟨x, s1, e1, ex⟩ := bnd_eq ex
  obtain ⟨xs, s2, e2, ex⟩ := bnd_eq ex
  cases ex
  exact ⟨M, U, st, env, x, s1, er, e1, arg_post er.sto.tr fun v H1 M1 p1 so1 r1 => ⟨M1, U, s1, env, xs, _, er.step p1 so1, e2, fun vs H2 M2 p2 so2 r2 => q _ H2 M2 (p1.trans p2) so2 (.cons (r1.step p2) r2)⟩⟩
/-! ### displays, operators -/
theorem se_tup {es : List Expr} {k : Nat} {pos : Pos} {g : Ev → Sto → Option (List D × Sto)} (h : PA X es (SemL K g)) :
    PE X (.Tuple es k pos) (SemE K fun env st => bnd (g env st) fun xs s => if xs.length ≤ SL then some (.d (.tuple xs), s) else none) := peImp (Pk.pe_tupK h) fun σ H Q ⟨M, U, st, env, w, s, er, ex, q⟩ => by
  obtain ⟨xs, s1, e1, ex⟩ := bnd_eq ex
  obtain ⟨hz, ex⟩ := dec2 ex
  cases ex
  exact ⟨M, U, st, env, xs, _, er, e1, fun vs H1 M1 p1 so1 r1 => ⟨by rw [r1.length]; exact SL_le hz, tupEnd so1.tracked r1 (EPost.op q p1 so1 (fun _ h => by cases h))⟩⟩
theorem se_lst {es : List Expr} {pos : Pos} {g : Ev → Sto → Option (List D × Sto)} (h : PA X es (SemL K g)) :
    PE X (.List es pos) (SemE K fun env st => bnd (g env st) fun xs s => if xs.length ≤ SL then some (.fr (.list xs), s) else none) := peImp (pe_lst h) fun σ H Q ⟨M, U, st, env, w, s, er, ex, q⟩ => by
  obtain ⟨xs, s1, e1, ex⟩ := bnd_eq ex
  obtain ⟨hz, ex⟩ := dec2 ex
  cases ex
  exact ⟨M, U, st, env, xs, _, er, e1, fun vs H1 M1 p1 so1 r1 => ⟨by rw [r1.length]; exact SL_le hz, fun p n => lstEnd r1 (EPost.op q p1 so1 (fun _ h => by cases h)) n⟩⟩
theorem bin_nf {b : Bop} {x y : D} {w : Vl} (h : binD b x y = some w) : NoRf w := fun n e => by
  subst e
  cases b <;> cases x <;> cases y <;> simp [binD, addD, mulD] at h
theorem se_bin {op : Operator} {b : Bop} (h : op = (match b with | .add => .Add | .sub => .Sub | .mul => .Mult | .fdiv => .FloorDiv | .mod => .Mod | .pow => .Pow)) {x y : Expr} {pos : Pos} {f g : Ev → Sto → Option (D × Sto)} (hx : PE X x (SemB X.K f)) (hy : PE X y (SemB X.K g)) :
    PE X (.BinOp x op y pos) (SemE X.K fun env st => bnd (f env st) fun u s => bnd (g env s) fun v s' => ret (binD b u v) s') := peImp (pe_op (op_binP h) hx hy) (sem_op fun _ _ _ => bin_nf)
theorem bV_eq {f : D → D → Option Bool} {u v : D} : bV f u v = (f u v).map fun k => .d (.bool k) := rfl
theorem bV_nf {f : D → D → Option Bool} {x y : D} {w : Vl} (h : bV f x y = some w) : NoRf w := fun n e => by
  subst e
  obtain ⟨k, _, e⟩ := Option.map_eq_some_iff.mp h
  cases e
theorem se_cmp {op : CmpOp} {c : Cop} (h : op = (match c with | .eq => .Eq | .ne => .NotEq | .lt => .Lt | .le => .LtE | .gt => .Gt | .ge => .GtE | .isin => .In | .notin => .NotIn)) (hu : X.A.units + 64 < cLine) {x y : Expr} {pos : Pos} {f g : Ev → Sto → Option (D × Sto)} (n : nice y = true)
    (hx : PE X x (SemB X.K f)) (hy : PE X y (SemB X.K g)) : PE X (.Compare x [op] [y] pos) (SemE X.K fun env st => bnd (f env st) fun u s => bnd (g env s) fun v s' => ret ((cmpD c u v).map fun k => .d (.bool k)) s') :=
  peImp (pe_cmpR (op_cmpP h hu) hx hy (noMark n op)) (sem_op fun _ _ _ => bV_nf)
theorem tBool {f : Ev → Sto → Option (Vl × Sto)} {t : TE} (im : ∀ σ H Q, SemE K f σ H Q → t σ H Q) (hb : ∀ env st w s, f env st = some (w, s) → ∃ k, w = .d (.bool k)) :
    ∀ σ H Q, SemT K (fun env st => tru (toD (f env st))) σ H Q → tTest t σ H Q := fun σ H Q ⟨M, U, st, env, b, s, er, ex, q⟩ => by
  obtain ⟨x, s1, e1, ex⟩ := bnd_eq (show bnd (toD (f env st)) (fun x s => ret (truD x) s) = some (b, s) from ex)
  obtain ⟨w, s2, e2, e3⟩ := bnd_eq (show bnd (f env st) (fun w s => w.toD.map fun x => (x, s)) = some (x, s1) from e1)
  obtain ⟨k, rfl⟩ := hb _ _ _ _ e2
  cases e3
  cases ex
  refine im σ H _ ⟨M, U, st, env, _, _, er, e2, fun v H' M' p so r => ?_⟩
  cases r
  exact ⟨_, rfl, q H' M' p so⟩
theorem ret_bool {c : Cop} {f g : Ev → Sto → Option (D × Sto)} (env : Ev) (st : Sto) (w : Vl) (s : Sto) (h : bnd (f env st) (fun u s => bnd (g env s) fun v s' => ret ((cmpD c u v).map fun k => Vl.d (.bool k)) s') = some (w, s)) : ∃ k, w = .d (.bool k) := by
  obtain ⟨u, s1, _, h⟩ := bnd_eq h
  obtain ⟨v, s2, _, h⟩ := bnd_eq h
  obtain ⟨w', e1, h⟩ := Option.map_eq_some_iff.mp h
  cases h
  obtain ⟨k, _, e⟩ := Option.map_eq_some_iff.mp e1
  exact ⟨k, e.symm⟩
theorem st_cmp {op : CmpOp} {c : Cop} (h : op = (match c with | .eq => .Eq | .ne => .NotEq | .lt => .Lt | .le => .LtE | .gt => .Gt | .ge => .GtE | .isin => .In | .notin => .NotIn)) (hu : X.A.units + 64 < cLine) {x y : Expr} {pos : Pos} {f g : Ev → Sto → Option (D × Sto)} (n : nice y = true)
    (hx : PE X x (SemB X.K f)) (hy : PE X y (SemB X.K g)) : PT X (.Compare x [op] [y] pos) (SemT X.K fun env st => tru (toD (bnd (f env st) fun u s => bnd (g env s) fun v s' => ret ((cmpD c u v).map fun k => .d (.bool k)) s'))) :=
  ptImp (pt_cmpR (op_cmpP h hu) hx hy (noMark n op)) (tBool (sem_op fun _ _ _ => bV_nf) ret_bool)
/-- a test whose truth is asked of a value -/
theorem truV {B : Addr → Prop} {H : Hp} {v : V} {x : D} {k : Bool} (r : RpW K B H v x) (h : truD x = some k) : TruV K v H k := by
  cases x with
  | none => cases r.none; cases h; rfl
  | bool b => cases r.bool; cases h; rfl
  | int i => cases r.int; cases h; rfl
  | str z =>
    cases r.str
    obtain ⟨hz, e⟩ := dec2 (show (if z.length ≤ SL then some (z.length != 0) else none) = some k from h)
    refine ⟨SL_le hz, ?_⟩
    rw [← e]
    cases z.length <;> rfl
  | list xs =>
    obtain ⟨a, vs, rfl, ha, ra⟩ := r.list
    cases h
    refine .inl ⟨vs, ha, ?_⟩
    cases ra <;> rfl
  | tuple xs =>
    obtain ⟨a, vs, rfl, ha, ra, _⟩ := r.tuple
    cases h
    refine .inr (.inl ⟨vs, ha, ?_⟩)
    cases ra <;> rfl
  | dict d => cases h
theorem st_of {e : Expr} {f : Ev → Sto → Option (D × Sto)} (he : PE X e (SemB X.K f)) (h : ∀ whole, isTrue e X.env whole = (do let v ← whole; standAt e.pos; holding [v] (truthy v))) : PT X e (SemT X.K fun env st => tru (f env st)) :=
  ptImp (pt_truth he h) fun σ H Q ⟨M, U, st, env, b, s, er, ex, q⟩ => by
    obtain ⟨x, s1, e1, ex⟩ := bnd_eq (show bnd (f env st) (fun x s => ret (truD x) s) = some (b, s) from ex)
    obtain ⟨k, e2, ex⟩ := Option.map_eq_some_iff.mp ex
    cases ex
    exact ⟨M, U, st, env, x, _, er, e1, fun v H' M' p so r => ⟨_, truV r.w e2, q H' M' p so⟩⟩
end
end Pi

end
section
set_option Elab.async false
set_option linter.all false
set_option maxRecDepth 100000
set_option maxHeartbeats 1000000
namespace Pi
open PySem PySem.Spec PyProof.Rows L2
section
variable {X : Cx} {x y z : Expr} {pos : Pos} {f g h : Ev → Sto → Option (D × Sto)}
theorem ret_eq {α : Type} {o : Option α} {st s : Sto} {a : α} (h : ret o st = some (a, s)) : o = some a ∧ st = s := by
  obtain ⟨b, e, h⟩ := Option.map_eq_some_iff.mp h
  cases h
  exact ⟨e, rfl⟩
abbrev opC : Cop → CmpOp
  | .eq => .Eq | .ne => .NotEq | .lt => .Lt | .le => .LtE | .gt => .Gt | .ge => .GtE | .isin => .In | .notin => .NotIn
def chainF (o o' : Cop) (f g h : Ev → Sto → Option (D × Sto)) (env : Ev) (st : Sto) : Option (Vl × Sto) := bnd (f env st) fun x s => bnd (g env s) fun y s' => bnd (ret (cmpD o x y) s') fun k s2 =>
      if k then bnd (h env s2) fun z s3 => ret ((cmpD o' y z).map fun k => .d (.bool k)) s3 else some (.d (.bool false), s2)
theorem chain_im {o o' : Cop} (σ : L2.St) (H : Hp) (Q : VK) (hh : SemE X.K (chainF o o' f g h) σ H Q) : tChain (rOp X.K (bV (cmpD o))) (rOp X.K (bV (cmpD o'))) (SemB X.K f) (SemB X.K g) (SemB X.K h) σ H Q := by
  obtain ⟨M, U, st, env, w, s, er, ex, q⟩ := hh
  obtain ⟨u, s1, e1, ex⟩ := bnd_eq ex
  obtain ⟨v, s2, e2, ex⟩ := bnd_eq ex
  obtain ⟨k, s3, e3, ex⟩ := bnd_eq ex
  obtain ⟨k', e9, e4⟩ := Option.map_eq_some_iff.mp e3
  cases e4
  clear e3
  refine ⟨M, U, st, env, u, s1, er, e1, fun a H1 M1 p1 so1 r1 => ⟨M1, U, s1, env, v, _, er.step p1 so1, e2, fun b H2 M2 p2 so2 r2 => ?_⟩⟩
  refine ⟨Bar M2 U, u, v, .d (.bool k), so2.tracked, (r1.step p2 so1.ap).w, r2.w, by rw [bV_eq, e9]; rfl, fun c H3 gr rk => ?_⟩
  cases rk
  refine ⟨k, rfl, ?_⟩
  have p3 : Stp M2 H2 M2 H3 := Stp.grow gr
  have so3 := so2.grow gr
  cases k with
  | false =>
    cases ex
    rw [if_neg Bool.false_ne_true]
    exact EPost.op q (p1.trans (p2.trans p3)) so3 (fun _ h => by cases h) _ _ grow0 (.bl _)
  | true =>
    rw [if_pos rfl] at ex
    rw [if_pos rfl]
    obtain ⟨t, s4, e5, ex⟩ := bnd_eq ex
    obtain ⟨w', e6, ex⟩ := Option.map_eq_some_iff.mp ex
    cases ex
    refine ⟨M2, U, _, env, t, _, (er.step p1 so1).step (p2.trans p3) so3, e5, fun d H4 M4 p4 so4 r4 => ?_⟩
    obtain ⟨k', e7, e8⟩ := Option.map_eq_some_iff.mp e6
    subst e8
    exact ⟨Bar M4 U, v, t, _, so4.tracked, ((r2.step p3 so2.ap).step p4 so3.ap).w, r4.w, by rw [bV_eq, e7] <;> rfl, EPost.op q (p1.trans (p2.trans (p3.trans p4))) so4 (fun _ h => by cases h)⟩
theorem chain_bool {o o' : Cop} (env : Ev) (st : Sto) (w : Vl) (s : Sto) (hh : chainF o o' f g h env st = some (w, s)) : ∃ k, w = .d (.bool k) := by
  obtain ⟨u, s1, _, ex⟩ := bnd_eq hh
  obtain ⟨v, s2, _, ex⟩ := bnd_eq ex
  obtain ⟨k, s3, _, ex⟩ := bnd_eq ex
  cases k with
  | false => cases ex; exact ⟨_, rfl⟩
  | true =>
    rw [if_pos rfl] at ex
    obtain ⟨t, s4, _, ex⟩ := bnd_eq ex
    obtain ⟨w', e6, ex⟩ := Option.map_eq_some_iff.mp ex
    cases ex
    obtain ⟨k', _, e8⟩ := Option.map_eq_some_iff.mp e6
    exact ⟨_, e8.symm⟩
theorem se_chain {o o' : Cop} (hu : X.A.units + 64 < cLine) (nz : nice z = true) (hx : PE X x (SemB X.K f)) (hy : PE X y (SemB X.K g)) (hz : PE X z (SemB X.K h)) :
    PE X (.Compare x [opC o, opC o'] [y, z] pos) (SemE X.K (chainF o o' f g h)) :=
  peImp (pe_chain (op_cmpP (by cases o <;> rfl) hu) (op_cmpP (by cases o' <;> rfl) hu) hx hy hz (show behindInMarks (opC o') z = false from noMark nz _)) chain_im
theorem st_chain {o o' : Cop} (hu : X.A.units + 64 < cLine) (nz : nice z = true) (hx : PE X x (SemB X.K f)) (hy : PE X y (SemB X.K g)) (hz : PE X z (SemB X.K h)) :
    PT X (.Compare x [opC o, opC o'] [y, z] pos) (SemT X.K fun env st => tru (toD (chainF o o' f g h env st))) :=
  ptImp (pt_chain (op_cmpP (by cases o <;> rfl) hu) (op_cmpP (by cases o' <;> rfl) hu) hx hy hz (show behindInMarks (opC o') z = false from noMark nz _)) (tBool chain_im chain_bool)
/-! ### is None -/
def isNF (b : Bool) (f : Ev → Sto → Option (D × Sto)) (env : Ev) (st : Sto) : Option (Vl × Sto) := bnd (f env st) fun x s => some (.d (.bool (match x with | .none => b | _ => !b)), s)
theorem nonIff {K : PySem.W.Frag} {B : Addr → Prop} {H : Hp} {v : V} {u : D} (r : RpW K B H v u) : decide (v = V.non) = isNone u := by
  cases u with
  | none => cases r.none; rfl
  | bool b => cases r.bool; rfl
  | int i => cases r.int; rfl
  | str z => cases r.str; rfl
  | list xs => obtain ⟨a, vs, rfl, _⟩ := r.list; rfl
  | tuple xs => obtain ⟨a, vs, rfl, _⟩ := r.tuple; rfl
  | dict ds =>
    rcases r with r | ⟨a, rfl, _⟩
    · cases r <;> rfl
    · rfl
theorem isN_im (σ : L2.St) (H : Hp) (Q : VK) (hh : SemE X.K (isNF true f) σ H Q) : tIsN (SemB X.K f) σ H Q := by
  obtain ⟨M, U, st, env, w, s, er, ex, q⟩ := hh
  obtain ⟨u, s1, e1, ex⟩ := bnd_eq ex
  cases ex
  refine ⟨M, U, st, env, u, _, er, e1, fun v H1 M1 p1 so1 r1 => ?_⟩
  refine EPost.op q p1 so1 (fun _ h => by cases h) (.bl (decide (v = V.non))) H1 grow0 ?_
  rw [nonIff r1.w]
  cases u <;> exact .bl _
theorem isnN_im (σ : L2.St) (H : Hp) (Q : VK) (hh : SemE X.K (isNF false f) σ H Q) : tNotN (SemB X.K f) σ H Q := by
  obtain ⟨M, U, st, env, w, s, er, ex, q⟩ := hh
  obtain ⟨u, s1, e1, ex⟩ := bnd_eq ex
  cases ex
  refine ⟨M, U, st, env, u, _, er, e1, fun v H1 M1 p1 so1 r1 => ?_⟩
  refine EPost.op q p1 so1 (fun _ h => by cases h) (.bl (!decide (v = V.non))) H1 grow0 ?_
  rw [nonIff r1.w]
  cases u <;> exact .bl _
theorem isN_bool {b : Bool} (env : Ev) (st : Sto) (w : Vl) (s : Sto) (hh : isNF b f env st = some (w, s)) : ∃ k, w = .d (.bool k) := by
  obtain ⟨u, s1, _, ex⟩ := bnd_eq hh
  cases ex
  exact ⟨_, rfl⟩
theorem se_isN {j : Nat} {p : Pos} (hx : PE X x (SemB X.K f)) : PE X (.Compare x [.Is] [.Constant .none j p] pos) (SemE X.K (isNF true f)) := peImp (pe_cmp (pc_isN hx) rfl) isN_im
theorem se_isnN {j : Nat} {p : Pos} (hx : PE X x (SemB X.K f)) : PE X (.Compare x [.IsNot] [.Constant .none j p] pos) (SemE X.K (isNF false f)) := peImp (pe_cmp (pc_notN hx) rfl) isnN_im
theorem st_isN {j : Nat} {p : Pos} (hx : PE X x (SemB X.K f)) : PT X (.Compare x [.Is] [.Constant .none j p] pos) (SemT X.K fun env st => tru (toD (isNF true f env st))) := ptImp (pt_cmp (pc_isN hx) rfl) (tBool isN_im isN_bool)
theorem st_isnN {j : Nat} {p : Pos} (hx : PE X x (SemB X.K f)) : PT X (.Compare x [.IsNot] [.Constant .none j p] pos) (SemT X.K fun env st => tru (toD (isNF false f env st))) := ptImp (pt_cmp (pc_notN hx) rfl) (tBool isnN_im isN_bool)
/-! ### one operand -/
theorem se_neg (hx : PE X x (SemB X.K f)) : PE X (.UnaryOp .USub x pos) (SemE X.K fun env st => bnd (f env st) fun x s => ret ((asInt x).map fun i => .d (.int (-i))) s) :=
  peImp (pe_un un_neg hx) fun σ H Q ⟨M, U, st, env, w, s, er, ex, q⟩ => by
    obtain ⟨u, s1, e1, ex⟩ := bnd_eq ex
    obtain ⟨w', e2, ex⟩ := Option.map_eq_some_iff.mp ex
    cases ex
    obtain ⟨i, e3, rfl⟩ := Option.map_eq_some_iff.mp e2
    cases u with
    | int j =>
      cases e3
      refine ⟨M, U, st, env, _, _, er, e1, fun v H1 M1 p1 so1 r1 => ?_⟩
      cases r1.w.int
      exact ⟨_, rfl, EPost.op q p1 so1 (fun _ h => by cases h) _ _ grow0 (.int _)⟩
    | none => cases e3
    | bool b => cases e3
    | str b => cases e3
    | list b => cases e3
    | tuple b => cases e3
    | dict b => cases e3
theorem slr_more {K : PySem.W.Frag} {M M' : List Addr} {U : Addr → Prop} {H H' : Hp} {st : Sto} {a : Addr} (p : Stp M H M' H') (ap : ∀ a ∈ M, ¬ U a) (tr : ∀ a, U a → ∃ o, H a = some o) (ha : H a = none) (so : StoOk K M' (fun b => U b ∨ b = a) H' st) {sl : Slot} {o : Option V} (h : SltR K M U H sl o) :
    SltR K M' (fun b => U b ∨ b = a) H' sl o := by
  have kp : Keep (Bar M U) (Bar M' fun b => U b ∨ b = a) H H' := fun b o nb e => ⟨(p.keep b o nb e).1, fun z => by
    rcases z with z | z | z
    · exact (p.keep b o nb e).2 (.inl z)
    · exact (p.keep b o nb e).2 (.inr z)
    · subst z; rw [ha] at e; cases e⟩
  have ow : ∀ {b x}, U b → OwAt K (Bar M U) H H b x → OwAt K (Bar M' fun b => U b ∨ b = a) H' H' b x := fun {b x} u q => q.keep kp fun o e => p.fr b o (fun z => ap b z u) e
  cases sl with
  | no => trivial
  | sh x => obtain ⟨v, e, r⟩ := h; exact ⟨v, e, r.keep kp⟩
  | ow x => obtain ⟨b, e, u, q⟩ := h; exact ⟨b, e, .inl u, ow u q⟩
  | lk x => obtain ⟨b, e, u, q⟩ := h; exact ⟨b, e, .inl u, ow u q⟩
  | rf n =>
    obtain ⟨b, e, q⟩ := h
    refine ⟨b, ?_, q⟩
    obtain ⟨t, rfl⟩ := p.pre
    rw [List.getElem?_append_left (List.getElem?_eq_some_iff.mp e).1]
    exact e
theorem se_rep {fa : Ev → Sto → Option (Vl × Sto)} (hx : PE X x (SemE X.K fa)) (hy : PE X y (SemB X.K g)) : PE X (.BinOp x .Mult y pos) (SemE X.K fun env st => bnd (fa env st) fun w s => bnd (g env s) fun y s' => (match w, y with
    | .fr (.list xs), .int k => if decide (-(2 ^ 62) ≤ k ∧ k < 2 ^ 62 ∧ xs.length * k.toNat ≤ SL) then some (.fr (.list (repD xs k)), s') else none
    | _, _ => none)) := peImp (pe_op op_rep hx hy) fun σ H Q ⟨M, U, st, env, w, s, er, ex, q⟩ => by
  obtain ⟨u, s1, e1, ex⟩ := bnd_eq ex
  obtain ⟨v, s2, e2, ex⟩ := bnd_eq ex
  split at ex
  · rename_i xs k _
    obtain ⟨hz, ex⟩ := dec2 ex
    cases ex
    obtain ⟨k1, k2, k3⟩ := of_decide_eq_true hz
    refine ⟨M, U, st, env, _, s1, er, e1, fun a H1 M1 p1 ha so1 ow => ?_⟩
    obtain ⟨vs, el, ra⟩ := ow
    -- the left list is no one's: the second operand leaves it
    have so1' := so1.less (U' := U) fun b z => .inl z
    have er1 := er.step p1 so1'
    refine ⟨M1, fun b => U b ∨ b = a, s1, env, _, _, ⟨so1, er1.len, fun i => ?_⟩, e2, fun b H2 M2 p2 so2 r2 => ?_⟩
    · have h := er.env i
      exact slr_more p1 er.sto.ap er.sto.tr ha so1 h
    · have nM : a ∉ M1 := fun z => so1.ap a z (.inr rfl)
      have el2 : H2 a = some (.lst vs) := p2.fr a _ nM el
      cases r2.w.int
      have so2' := so2.less (U' := U) fun b z => .inl z
      refine ⟨a, k, vs, rfl, rfl, el2, by omega, by omega, by rw [ra.length]; exact SL_le k3, fun p n => ?_⟩
      have kp : Keep (Bar M1 fun b => U b ∨ b = a) (Bar M2 U) H1 H2 := fun b o nb e => ⟨(p2.keep (U := fun b => U b ∨ b = a) b o nb e).1, fun z => (p2.keep (U := fun b => U b ∨ b = a) b o nb e).2 (z.elim .inl fun z => .inr (.inl z))⟩
      exact lstEnd ((ra.keep kp).rep k.toNat) (EPost.op q (p1.trans p2) so2' (fun _ h => by cases h)) n
  · cases ex
/-! ### and, or, not, if -/
theorem toD_bor {e : E} {r : Option (Vl × Sto)} {env : Ev} {st : Sto} {gl : Nat → Option D} {cf : Cf} {p : D × Sto} (h : toD (ev gl cf e env st) = some p) : bor e (ev gl cf e env st) env st = some p := by
  unfold bor
  split
  · rename_i i
    obtain ⟨w, s, e1, e2⟩ := bnd_eq h
    have e1 : (match look env i with | .sh x => some (Vl.d x, st) | .rf n => some (.rf n, st) | _ => none) = some (w, s) := by
      rw [ev] at e1; exact e1
    cases hl : look env i with
    | sh y => rw [hl] at e1; cases e1; exact e2
    | rf n => rw [hl] at e1; cases e1; cases e2
    | no => rw [hl] at e1; cases e1
    | ow y => rw [hl] at e1; cases e1
    | lk y => rw [hl] at e1; cases e1
  · exact h
def andF (f : Ev → Sto → Option (D × Sto)) (g : Ev → Sto → Option (Vl × Sto)) (env : Ev) (st : Sto) : Option (Vl × Sto) := bnd (f env st) fun x s => bnd (ret (truD x) s) fun k s => if k then g env s else some (.d x, s)
def orF (f g : Ev → Sto → Option (Vl × Sto)) (env : Ev) (st : Sto) : Option (Vl × Sto) := bnd (f env st) fun w s => bnd (ret w.toD s) fun x s => bnd (ret (truD x) s) fun k s => if k then some (w, s) else g env s
/-- the second operand behind the first -/
theorem sem_next {K : PySem.W.Frag} {M M1 : List Addr} {U : Addr → Prop} {H H1 : Hp} {st s1 s2 : Sto} {σ : L2.St} {env : Ev} {g : Ev → Sto → Option (Vl × Sto)} {w : Vl} {Q : VK} (er : ER K M U H st σ env) (p : Stp M H M1 H1) (so : StoOk K M1 U H1 s1) (e : g env s1 = some (w, s2)) (q : EPost K M U H s2 w Q) :
    SemE K g σ H1 Q := ⟨M1, U, s1, env, w, s2, er.step p so, e, by
  cases w with
  | d x => exact fun v H' M' p' so' r => q v H' M' (p.trans p') so' r
  | fr x =>
    intro a H' M' p' ha so' r
    have nM : a ∉ M := fun z => by
      obtain ⟨o, e⟩ := so.tracked a (Or.inl (p.mem z))
      rw [ha] at e; cases e
    exact q a H' M' (p.trans p') (p.none_of nM ha) so' r
  | rf n => exact fun a H' M' p' so' r => q a H' M' (p.trans p') so' r⟩
theorem se_and {rest : List Expr} {gE : Ev → Sto → Option (Vl × Sto)} (hx : PE X x (SemD X.K f)) (hy : PE X (.BoolOp .And (y :: rest) pos) (SemE X.K gE)) : PE X (.BoolOp .And (x :: y :: rest) pos) (SemE X.K (andF f gE)) :=
  peImp (pe_andT hx hy) fun σ H Q ⟨M, U, st, env, w, s, er, ex, q⟩ => by
    obtain ⟨u, s1, e1, ex⟩ := bnd_eq ex
    obtain ⟨k, s2, e2, ex⟩ := bnd_eq ex
    obtain ⟨e2x, rfl⟩ := ret_eq e2
    refine ⟨M, U, st, env, u, _, er, e1, fun v H1 M1 p1 so1 r1 => ⟨k, truV (.inl r1) e2x, ?_⟩⟩
    cases k with
    | true => exact sem_next er p1 so1 ex q
    | false => cases ex; exact q v H1 M1 p1 so1 r1
theorem se_or {rest : List Expr} {fE gE : Ev → Sto → Option (Vl × Sto)} (hx : PE X x (SemE X.K fE)) (hy : PE X (.BoolOp .Or (y :: rest) pos) (SemE X.K gE)) : PE X (.BoolOp .Or (x :: y :: rest) pos) (SemE X.K (orF fE gE)) :=
  peImp (pe_orT hx hy) fun σ H Q ⟨M, U, st, env, w, s, er, ex, q⟩ => by
    obtain ⟨u, s1, e1, ex⟩ := bnd_eq ex
    obtain ⟨t, s2, e2, ex⟩ := bnd_eq ex
    obtain ⟨e2x, rfl⟩ := ret_eq e2
    obtain ⟨k, s3, e4, ex⟩ := bnd_eq ex
    obtain ⟨e4x, rfl⟩ := ret_eq e4
    refine ⟨M, U, st, env, u, _, er, e1, ?_⟩
    cases u with
    | rf n => cases e2x
    | d y =>
      cases e2x
      refine fun v H1 M1 p1 so1 r1 => ⟨k, truV (.inl r1) e4x, ?_⟩
      cases k with
      | true => cases ex; exact q v H1 M1 p1 so1 r1
      | false => exact sem_next er p1 so1 ex q
    | fr y =>
      cases e2x
      refine fun a H1 M1 p1 ha so1 ow => ⟨k, truV (.inr ⟨a, rfl, ow⟩) e4x, ?_⟩
      cases k with
      | true => cases ex; exact q a H1 M1 p1 ha so1 ow
      | false => exact sem_next er p1 (so1.less fun b z => .inl z) ex q
theorem se_one {op : BoolOp} {fE : Ev → Sto → Option (Vl × Sto)} (hx : PE X x (SemE X.K fE)) : PE X (.BoolOp op [x] pos) (SemE X.K fE) := pe_one hx
/-! ### not, if -/
theorem se_not (hx : PE X x (SemB X.K f)) : PE X (.UnaryOp .Not x pos) (SemE X.K fun env st => bnd (tru (f env st)) fun k s => some (.d (.bool (!k)), s)) :=
  peImp (pe_notT hx) fun σ H Q ⟨M, U, st, env, w, s, er, ex, q⟩ => by
    obtain ⟨k, s1, e1, ex⟩ := bnd_eq ex
    obtain ⟨u, s2, e2, e3⟩ := bnd_eq e1
    obtain ⟨e3x, rfl⟩ := ret_eq e3
    cases ex
    exact ⟨M, U, st, env, u, _, er, e2, fun v H1 M1 p1 so1 r1 => ⟨k, truV r1.w e3x, EPost.op q p1 so1 (fun _ h => by cases h) _ _ grow0 (.bl _)⟩⟩
theorem se_ite {c : Expr} {t : Ev → Sto → Option (Bool × Sto)} {fE gE : Ev → Sto → Option (Vl × Sto)} (hc : PT X c (SemT X.K t)) (hx : PE X x (SemE X.K fE)) (hy : PE X y (SemE X.K gE)) :
    PE X (.IfExp c x y pos) (SemE X.K fun env st => bnd (t env st) fun k s => if k then fE env s else gE env s) := peImp (pe_ifExp hc hx hy) fun σ H Q ⟨M, U, st, env, w, s, er, ex, q⟩ => by
  obtain ⟨k, s1, e1, ex⟩ := bnd_eq ex
  refine ⟨M, U, st, env, k, s1, er, e1, fun H1 M1 p1 so1 => ?_⟩
  cases k with
  | true => exact sem_next er p1 so1 ex q
  | false => exact sem_next er p1 so1 ex q
/-! ### tests -/
theorem st_not {t : Ev → Sto → Option (Bool × Sto)} (hx : PT X x (SemT X.K t)) : PT X (.UnaryOp .Not x pos) (SemT X.K fun env st => tru (toD (bnd (t env st) fun k s => some (.d (.bool (!k)), s)))) :=
  ptImp (pt_not hx) fun σ H Q ⟨M, U, st, env, b, s, er, ex, q⟩ => by
    obtain ⟨u, s1, e1, ex⟩ := bnd_eq ex
    obtain ⟨w, s2, e2, e3⟩ := bnd_eq e1
    obtain ⟨k, s3, e4, e5⟩ := bnd_eq e2
    cases e5
    cases e3
    cases ex
    exact ⟨M, U, st, env, k, _, er, e4, q⟩
theorem pwImp {e : Expr} {t t' : TT} (h : PW X e t) (f : ∀ σ H Q, t' σ H Q → t σ H Q) : PW X e t' := ⟨fun wh pins s σ H Q I q => h.run wh pins s σ H Q I (f σ H Q q)⟩
/-- the truth of an and: of each -/
theorem sw_and {rest : List Expr} {gE : Ev → Sto → Option (Vl × Sto)} {t u : Ev → Sto → Option (Bool × Sto)} (ht : ∀ env st x k s1 s2, f env st = some (x, s1) → ret (truD x) s1 = some (k, s2) → t env st = some (k, s2)) (hu : ∀ env st k s, tru (toD (gE env st)) = some (k, s) → u env st = some (k, s))
    (hx : PT X x (SemT X.K t)) (hy : PW X (.BoolOp .And (y :: rest) pos) (SemT X.K u)) : PW X (.BoolOp .And (x :: y :: rest) pos) (SemT X.K fun env st => tru (toD (andF f gE env st))) :=
  pwImp (pw_and hx hy) fun σ H Q ⟨M, U, st, env, b, s, er, ex, q⟩ => by
    obtain ⟨v, s1, e1, ex⟩ := bnd_eq ex
    obtain ⟨w, s2, e2, e3⟩ := bnd_eq e1
    obtain ⟨x1, s3, e4, e5⟩ := bnd_eq e2
    obtain ⟨k, s4, e6, e7⟩ := bnd_eq e5
    refine ⟨M, U, st, env, k, s4, er, ht _ _ _ _ _ _ e4 e6, fun H1 M1 p1 so1 => ?_⟩
    cases k with
    | true =>
      rw [if_pos rfl] at e7
      refine ⟨M1, U, s4, env, b, s, er.step p1 so1, hu _ _ _ _ ?_, fun H2 M2 p2 so2 => q H2 M2 (p1.trans p2) so2⟩
      show bnd (bnd (gE env s4) fun w s => w.toD.map fun x => (x, s)) (fun x s => ret (truD x) s) = _
      rw [e7]
      show bnd (w.toD.map fun x => (x, s2)) (fun x s => ret (truD x) s) = _
      rw [e3]
      exact ex
    | false =>
      cases e7
      cases e3
      obtain ⟨e6x, rfl⟩ := ret_eq e6
      obtain ⟨e9, rfl⟩ := ret_eq ex
      rw [e6x] at e9
      cases e9
      exact q H1 M1 p1 so1
theorem sw_or {rest : List Expr} {fE gE : Ev → Sto → Option (Vl × Sto)} {t u : Ev → Sto → Option (Bool × Sto)} (ht : ∀ env st k s, tru (toD (fE env st)) = some (k, s) → t env st = some (k, s)) (hu : ∀ env st k s, tru (toD (gE env st)) = some (k, s) → u env st = some (k, s))
    (hx : PT X x (SemT X.K t)) (hy : PW X (.BoolOp .Or (y :: rest) pos) (SemT X.K u)) : PW X (.BoolOp .Or (x :: y :: rest) pos) (SemT X.K fun env st => tru (toD (orF fE gE env st))) :=
  pwImp (pw_or hx hy) fun σ H Q ⟨M, U, st, env, b, s, er, ex, q⟩ => by
    obtain ⟨v, s1, e1, ex⟩ := bnd_eq ex
    obtain ⟨w, s2, e2, e3⟩ := bnd_eq e1
    obtain ⟨w1, s3, e4, e5⟩ := bnd_eq e2
    obtain ⟨x1, s4, e6, e7⟩ := bnd_eq e5
    obtain ⟨e8, rfl⟩ := ret_eq e6
    obtain ⟨k, s5, e10, e11⟩ := bnd_eq e7
    have et : t env st = some (k, s5) := ht _ _ _ _ (by
      show bnd (bnd (fE env st) fun w s => w.toD.map fun x => (x, s)) (fun x s => ret (truD x) s) = _
      rw [e4]
      show bnd (w1.toD.map fun x => (x, s3)) (fun x s => ret (truD x) s) = _
      rw [e8]
      exact e10)
    refine ⟨M, U, st, env, k, s5, er, et, fun H1 M1 p1 so1 => ?_⟩
    obtain ⟨e12, rfl⟩ := ret_eq e10
    cases k with
    | false =>
      rw [if_neg Bool.false_ne_true] at e11
      refine ⟨M1, U, _, env, b, s, er.step p1 so1, hu _ _ _ _ ?_, fun H2 M2 p2 so2 => q H2 M2 (p1.trans p2) so2⟩
      show bnd (bnd (gE env s3) fun w s => w.toD.map fun x => (x, s)) (fun x s => ret (truD x) s) = _
      rw [e11]
      show bnd (w.toD.map fun x => (x, s2)) (fun x s => ret (truD x) s) = _
      rw [e3]
      exact ex
    | true =>
      cases e11
      rw [e8] at e3
      cases e3
      obtain ⟨e14, rfl⟩ := ret_eq ex
      rw [e12] at e14
      cases e14
      exact q H1 M1 p1 so1
end
end Pi

end
section
set_option Elab.async false
set_option linter.all false
set_option maxRecDepth 100000
set_option maxHeartbeats 1000000
namespace Pi
open PySem PySem.Spec PyProof.Rows L2
section
variable {X : Cx} {x y z : Expr} {pos : Pos} {f g h : Ev → Sto → Option (D × Sto)}
theorem atI_rp {K : PySem.W.Frag} {B : Addr → Prop} {H : Hp} {vs : List V} {ds : List D} (r : RpAll K B H vs ds) {i : Int} {d : D} (e : at? ds i = some d) : ∃ v, atI vs i = some v ∧ Rp K B H v d := by
  obtain ⟨j, e1, e2⟩ := Option.bind_eq_some_iff.mp (show (ixN ds.length i).bind (fun j => ds[j]?) = some d from e)
  obtain ⟨v, e3, rv⟩ := r.get e2
  refine ⟨v, ?_, rv⟩
  show (ixN vs.length i).bind (fun j => vs[j]?) = some v
  rw [r.length, e1]
  exact e3
def ixV (x y : D) : Option Vl := (ixD x y).map .d
theorem ixD_cases {u v d : D} (e : ixD u v = some d) : (∃ xs i, u = .list xs ∧ v = .int i ∧ at? xs i = some d) ∨ (∃ xs i, u = .tuple xs ∧ v = .int i ∧ at? xs i = some d) ∨ (∃ z i c, u = .str z ∧ v = .int i ∧ z.length ≤ SL ∧ atI z.cps.toList i = some c ∧ d = .str ⟨#[c]⟩) ∨ ∃ ds, u = .dict ds ∧ dget ds v = some (some d) := by
  unfold ixD at e
  split at e
  · exact .inl ⟨_, _, rfl, rfl, e⟩
  · exact .inr (.inl ⟨_, _, rfl, rfl, e⟩)
  · split at e
    · obtain ⟨c, e1, e2⟩ := Option.map_eq_some_iff.mp e
      exact .inr (.inr (.inl ⟨_, _, c, rfl, rfl, ‹_›, e1, e2.symm⟩))
    · cases e
  · obtain ⟨o, e1, e2⟩ := Option.bind_eq_some_iff.mp e
    obtain rfl : o = some d := e2
    exact .inr (.inr (.inr ⟨_, rfl, e1⟩))
  · cases e
theorem ix_P (hu : X.A.units + 1 < cLine) : IxR X (rOp X.K ixV) := by
  intro ve vs' pins s σ H v u vv uu Q I rx ry ⟨B, a, b, w, tr, hx, hy, e, q⟩ hsub
  obtain ⟨d, e1, e⟩ := Option.map_eq_some_iff.mp e
  cases e
  rcases ixD_cases e1 with ⟨xs, i, rfl, rfl, e2⟩ | ⟨xs, i, rfl, rfl, e2⟩ | ⟨z, i, c, rfl, rfl, hz, e2, rfl⟩ | ⟨ds, rfl, e2⟩
  · obtain ⟨p, vs, rfl, hp, rp⟩ := hx.list
    cases hy.int
    obtain ⟨t, e3, rt⟩ := atI_rp rp e2
    exact ix_list ve vs' pins s σ H _ _ _ _ Q I rx ry ⟨p, vs, i, t, rfl, rfl, hp, e3, q _ _ grow0 rt⟩ hsub
  · obtain ⟨p, vs, rfl, hp, rp, _⟩ := hx.tuple
    cases hy.int
    obtain ⟨t, e3, rt⟩ := atI_rp rp e2
    exact ix_tup ve vs' pins s σ H _ _ _ _ Q I rx ry ⟨p, vs, i, t, rfl, rfl, hp, e3, q _ _ grow0 rt⟩ hsub
  · cases hx.str
    cases hy.int
    exact ix_str ve vs' pins s σ H _ _ _ _ Q I rx ry ⟨z, i, c, rfl, rfl, SL_le hz, e2, q _ _ grow0 (.str _)⟩ hsub
  · obtain ⟨a, o', rfl, g, ro⟩ := dg_of hx hy e2
    obtain rfl : vv = Value.ref a := rx
    cases o' with
    | none => exact ro.elim
    | some v' =>
      obtain ⟨t1, _, _⟩ := isD_at I (dg_isD g)
      exact tail_any t1 PySem.F.slot_dict_getitem.lookup (dg_getItem hu I g ry fun w' s' I' rw' => ⟨v', H, I', rw', q _ _ grow0 ro⟩) hsub
theorem se_ix (hu : X.A.units + 1 < cLine) (n : nice y = true) (hx : PE X x (SemB X.K f)) (hy : PE X y (SemB X.K g)) : PE X (.Subscript x y pos) (SemE X.K fun env st => bnd (f env st) fun u s => bnd (g env s) fun v s' => ret ((ixD u v).map .d) s') :=
  peImp (pe_ix (ix_P hu) hx hy (plainIx n)) (sem_op fun u v w h n e => by
    subst e
    obtain ⟨d, _, e⟩ := Option.map_eq_some_iff.mp h
    cases e)
/-- an item of the store's thing -/
theorem se_bx {i : Nat} {nm : Str} {npos : Pos} (hN : X.N[i]? = some nm) (hv : Vis X.env.scope nm) (hd : (nm == ("__debug__" : Str)) = false) (hcd : (nm == ("__classdict__" : Str)) = false) (n : nice y = true) (hy : PE X y (SemB X.K g)) :
    PE X (.Subscript (.Name nm npos) y pos) (SemE X.K fun env st => bnd (g env st) fun y s => (match look env i with
    | .rf n => ret ((s[n]?).bind fun xs => (ixD (.list xs) y).map .d) s
    | _ => none)) := peImp (pe_ix ix_list (pe_var hN hv hd hcd) hy (plainIx n)) fun σ H Q ⟨M, U, st, env, w, s, er, ex, q⟩ => by
  obtain ⟨v, s1, e1, ex⟩ := bnd_eq ex
  have h := er.env i
  cases hl : look env i with
  | rf n =>
    rw [hl] at h ex
    obtain ⟨e2, rfl⟩ := ret_eq ex
    obtain ⟨xs, e3, e4⟩ := Option.bind_eq_some_iff.mp e2
    obtain ⟨d, e5, e6⟩ := Option.map_eq_some_iff.mp e4
    subst e6
    obtain ⟨a, e7, e8⟩ := h
    refine ⟨_, join_some e8, M, U, st, env, v, _, er, e1, fun u H1 M1 p1 so1 r1 => ?_⟩
    obtain ⟨b, vs, g1, g2, g3⟩ := so1.box n xs e3
    have : M1[n]? = some a := by
      obtain ⟨t, e⟩ := p1.pre
      rw [← e, List.getElem?_append_left (List.getElem?_eq_some_iff.mp e7).1]
      exact e7
    rw [this] at g1
    cases g1
    cases v with
    | int j =>
      cases r1.w.int
      obtain ⟨t, e9, rt⟩ := atI_rp g3 (show at? xs j = some d from e5)
      exact ⟨a, vs, j, t, rfl, rfl, .inl (.inl g2), e9, q _ H1 M1 p1 so1 rt⟩
    | none => cases e5
    | bool b => cases e5
    | str b => cases e5
    | list b => cases e5
    | tuple b => cases e5
    | dict b => cases e5
  | sh y => rw [hl] at ex; cases ex
  | no => rw [hl] at ex; cases ex
  | ow y => rw [hl] at ex; cases ex
  | lk y => rw [hl] at ex; cases ex
/-! ### slices -/
def SemO (K : PySem.W.Frag) (f : Ev → Sto → Option (Option Int × Sto)) : TO := fun σ H Q => ∃ M U st env o st', ER K M U H st σ env ∧ f env st = some (o, st') ∧ ∀ H' M', Stp M H M' H' → StoOk K M' U H' st' → Q o H'
theorem poImp {e : Option Expr} {t t' : TO} (h : PO X e t) (f : ∀ σ H Q, t' σ H Q → t σ H Q) : PO X e t' := ⟨fun pins s σ H Q I q => h.run pins s σ H Q I (f σ H Q q)⟩
theorem so_no : PO X none (SemO X.K fun _ st => some (none, st)) := poImp po_none fun σ H Q ⟨M, U, st, env, w, s, er, ex, q⟩ => by
  cases ex
  exact q H M Stp.refl er.sto
theorem so_yes (hx : PE X x (SemB X.K f)) : PO X (some x) (SemO X.K fun env st => bnd (f env st) fun x s => ret ((asInt x).map some) s) := poImp (po_some hx) fun σ H Q ⟨M, U, st, env, w, s, er, ex, q⟩ => by
  obtain ⟨u, s1, e1, ex⟩ := bnd_eq ex
  obtain ⟨e2, rfl⟩ := ret_eq ex
  obtain ⟨i, e3, rfl⟩ := Option.map_eq_some_iff.mp e2
  cases u with
  | int j =>
    cases e3
    refine ⟨M, U, st, env, _, _, er, e1, fun v H1 M1 p1 so1 r1 => ?_⟩
    cases r1.w.int
    exact ⟨_, rfl, q H1 M1 p1 so1⟩
  | none => cases e3
  | bool b => cases e3
  | str b => cases e3
  | list b => cases e3
  | tuple b => cases e3
  | dict b => cases e3
def rSlP (K : PySem.W.Frag) : V → Option Int → Option Int → Hp → VK → Prop := fun v lo hi H Q => ∃ B x w, (∀ a, B a → ∃ o, H a = some o) ∧ RpW K B H v x ∧ slD x lo hi = some w ∧ OPost K B H w Q
theorem RpAll.cut {K : PySem.W.Frag} {B : Addr → Prop} {H : Hp} {vs : List V} {ds : List D} (r : RpAll K B H vs ds) (lo hi : Option Int) : RpAll K B H (cutV vs lo hi) (cutD ds lo hi) := by
  unfold cutV cutD
  rw [r.length]
  exact (r.drop _).take _
theorem sl_P : SlR X (rSlP X.K) := by
  intro pins s σ H v vv vl vu lo hi sl Q I rx hs pl pu ⟨B, x, w, tr, hx, e, q⟩
  cases x with
  | list xs =>
    cases e
    obtain ⟨a, vs, rfl, ha, ra⟩ := hx.list
    exact sl_list pins s σ H _ vv vl vu lo hi sl Q I rx hs pl pu ⟨a, vs, rfl, ha, fun p n => lstEnd (ra.cut lo hi) q n⟩
  | tuple xs =>
    cases e
    obtain ⟨a, vs, rfl, ha, ra, wa⟩ := hx.tuple
    refine Pk.sl_tupK pins s σ H _ vv vl vu lo hi sl Q I rx hs pl pu ⟨a, vs, rfl, ha, fun hw => ?_, fun _ => tupEnd tr (ra.cut lo hi) q⟩
    refine q _ _ grow0 ?_
    have : cutD xs lo hi = xs := by
      unfold cutD
      rw [ra.length] at hw
      rw [hw.1, hw.2]
      simp
    rw [this]
    exact wa
  | str z =>
    obtain ⟨hz, e⟩ := dec2 (show (if z.length ≤ SL then some (Vl.d (.str (cutS z lo hi))) else none) = some w from e)
    cases e
    cases hx.str
    exact sl_str pins s σ H _ vv vl vu lo hi sl Q I rx hs pl pu ⟨z, rfl, SL_le hz, q _ _ grow0 (.str _)⟩
  | none => cases e
  | bool b => cases e
  | int b => cases e
  | dict b => cases e
theorem se_sl {lo hi : Option Expr} {p2 : Pos} {l u : Ev → Sto → Option (Option Int × Sto)} (hx : PE X x (SemB X.K f)) (hl : PO X lo (SemO X.K l)) (hu : PO X hi (SemO X.K u)) :
    PE X (.Subscript x (.Slice lo hi none p2) pos) (SemE X.K fun env st => bnd (f env st) fun x s => bnd (l env s) fun l s1 => bnd (u env s1) fun h s2 => ret (slD x l h) s2) :=
  peImp (pe_slice sl_P hx hl hu) fun σ H Q ⟨M, U, st, env, w, s, er, ex, q⟩ => by
    obtain ⟨v, s1, e1, ex⟩ := bnd_eq ex
    obtain ⟨o1, s2, e2, ex⟩ := bnd_eq ex
    obtain ⟨o2, s3, e3, ex⟩ := bnd_eq ex
    obtain ⟨e4, rfl⟩ := ret_eq ex
    refine ⟨M, U, st, env, v, s1, er, e1, fun t H1 M1 p1 so1 r1 => ⟨M1, U, s1, env, o1, s2, er.step p1 so1, e2, fun H2 M2 p2 so2 => ⟨M2, U, s2, env, o2, _, (er.step p1 so1).step p2 so2, e3, fun H3 M3 p3 so3 => ?_⟩⟩⟩
    refine ⟨Bar M3 U, v, w, so3.tracked, ((r1.step p2 so1.ap).step p3 so2.ap).w, e4, EPost.op q (p1.trans (p2.trans p3)) so3 fun n hn => ?_⟩
    subst hn
    cases v <;> simp [slD] at e4
theorem se_rev {k : Nat} {p1 p2 p3 : Pos} (hx : PE X x (SemB X.K f)) : PE X (.Subscript x (.Slice none none (some (.UnaryOp .USub (.Constant (.int 1) k p1) p2)) p3) pos) (SemE X.K fun env st => bnd (f env st) fun x s => (match x with
    | .list xs => some (.fr (.list xs.reverse), s)
    | _ => none)) := peImp (pe_revL hx) fun σ H Q ⟨M, U, st, env, w, s, er, ex, q⟩ => by
  obtain ⟨v, s1, e1, ex⟩ := bnd_eq ex
  cases v with
  | list xs =>
    cases ex
    refine ⟨M, U, st, env, _, _, er, e1, fun t H1 M1 p1 so1 r1 => ?_⟩
    obtain ⟨a, vs, rfl, ha, ra⟩ := r1.w.list
    exact ⟨a, vs, rfl, ha, fun p n => lstEnd ra.reverse (EPost.op q p1 so1 (fun _ h => by cases h)) n⟩
  | none => cases ex
  | bool b => cases ex
  | str b => cases ex
  | int b => cases ex
  | tuple b => cases ex
  | dict b => cases ex
/-! ### two arguments -/
def F2.name : F2 → Str
  | .max => "max"
  | .min => "min"
theorem cr_f2 (hc : X.calm = true) {k : F2} : CallR X (.builtin (match k with | .max => "max" | .min => "min")) (rC2 X.K (f2D k)) := by
  intro pins s σ H xs us Q I r ⟨v, u, ev, B, x, y, w, tr, hx, hy, e, q⟩
  subst ev
  cases x <;> cases y <;> first | (cases k <;> cases e; done) | skip
  cases hx.int
  cases hy.int
  cases k with
  | max => cases e; exact call_max2 hc pins s σ H _ _ Q I r ⟨_, _, rfl, q _ _ grow0 (.int _)⟩
  | min => cases e; exact call_min2 hc pins s σ H _ _ Q I r ⟨_, _, rfl, q _ _ grow0 (.int _)⟩
theorem se_f2 {k : F2} {p : Pos} (hc : X.calm = true) (hg : Gl X k.name) (hm : X.mg k.name = none) (nx : nice x = true) (ny : nice y = true) (hx : PE X x (SemB X.K f)) (hy : PE X y (SemB X.K g)) :
    PE X (.Call (.Name k.name p) [x, y] [] pos) (SemE X.K fun env st => bnd (f env st) fun u s => bnd (g env s) fun v s' => ret (f2D k u v) s') := by
  have im : ∀ σ H Q, SemE X.K (fun env st => bnd (f env st) fun u s => bnd (g env s) fun v s' => ret (f2D k u v) s') σ H Q → tCB (rC2 X.K (f2D k)) (tCons (SemB X.K f) (tCons (SemB X.K g) tNil)) σ H Q := fun σ H Q h => by
    obtain ⟨M, U, st, env, u, s, er, e1, kk⟩ := sem_op (f := f2D k) (fun u v w h n e => by subst e; cases k <;> cases u <;> cases v <;> cases h) σ H Q h
    exact ⟨M, U, st, env, u, s, er, e1, fun v H' M' s1 so r => by
      obtain ⟨M2, U2, st2, env2, u2, s2, er2, e2, k2⟩ := kk v H' M' s1 so r
      exact ⟨M2, U2, st2, env2, u2, s2, er2, e2, fun v2 H2 M3 s3 so2 r2 => ⟨v, v2, rfl, k2 v2 H2 M3 s3 so2 r2⟩⟩⟩
  have s1 := star1 nx [y] X.env
  have s2 := star1 ny [] X.env
  have pa : PA X [x, y] (tCons (SemB X.K f) (tCons (SemB X.K g) tNil)) := pa_cons hx (pa_cons hy pa_nil s2) s1
  have pl : (backTo pos (starEach [y] X.env)).any (·.1) = false := by rw [s2]; rfl
  cases k with
  | max => exact peImp (pe_callB (id := "max") (cr_f2 (k := .max) hc) hg hm (by decide +kernel) pa (by decide +kernel) (by decide +kernel) s1 pl) im
  | min => exact peImp (pe_callB (id := "min") (cr_f2 (k := .min) hc) hg hm (by decide +kernel) pa (by decide +kernel) (by decide +kernel) s1 pl) im
/-! a text's method of one argument -/
def M1.name : M1 → Str
  | .join => "join" | .split => "split" | .count => "count"
def plainO : Expr → Bool
  | .Call .. => false
  | _ => true
theorem base_of {o : Expr} (h : plainO o = true) (m : Str) (env : Env) (w : Sem Value) : attributeBase o m env w = w := by
  cases o <;> first | rfl | cases h
theorem rp_strs {K : PySem.W.Frag} {B : Addr → Prop} {H : Hp} : ∀ {vs : List V} {xs : List D} {ys : List Str}, RpAll K B H vs xs → strsD xs = some ys → vs = ys.map V.str
  | _, _, _, .nil, h => by cases h; rfl
  | _, _, _, .cons (d := d) h r, e => by
    cases d with
    | str x =>
      obtain ⟨ys, e1, rfl⟩ := Option.map_eq_some_iff.mp (show (strsD _).map (x :: ·) = some _ from e)
      cases h
      rw [rp_strs r e1]; rfl
    | _ => cases e
theorem rp_of_strs {K : PySem.W.Frag} {B : Addr → Prop} {H : Hp} : ∀ ys : List Str, RpAll K B H (ys.map V.str) (ys.map PyData.str)
  | [] => .nil
  | y :: ys => .cons (.str y) (rp_of_strs ys)
theorem m1_str {m : M1} {u v : D} {w : Vl} (h : m1D m u v = some w) : ∃ a, u = .str a := by
  cases m <;> cases u <;> first | exact ⟨_, rfl⟩ | (cases v <;> cases h)
theorem m1_nf {m : M1} {u v : D} {w : Vl} (h : m1D m u v = some w) : NoRf w := fun n e => by
  subst e
  obtain ⟨a, rfl⟩ := m1_str h
  cases m with
  | join =>
    obtain ⟨ys, _, h⟩ := Option.bind_eq_some_iff.mp (show ((items v).bind strsD).bind (fun ys => if (ys.map (·.length)).sum + ys.length * a.length ≤ SL then some (Vl.d (.str (Txt.join a ys))) else none) = some (.rf n) from h)
    obtain ⟨_, h⟩ := dec2 h
    cases h
  | split =>
    cases v with
    | str b => obtain ⟨_, h⟩ := dec2 (show (if b.length ≠ 0 ∧ a.length + 2 ≤ SL then some (Vl.fr (.list ((Txt.split a b).map .str))) else none) = some (.rf n) from h); cases h
    | _ => cases h
  | count => cases v <;> cases h
theorem se_m1 {m : M1} {ap pos : Pos} (hl : ap.endLine = pos.line) (po : plainO x = true) (ny : nice y = true) (hx : PE X x (SemB X.K f)) (hy : PE X y (SemB X.K g)) :
    PE X (.Call (.Attribute x m.name ap) [y] [] pos) (SemE X.K fun env st => bnd (f env st) fun u s => bnd (g env s) fun v s' => ret (m1D m u v) s') := by
  have hs : starEach [y] X.env = [(false, eval y X.env)] := star1 ny [] X.env
  have hb : ∀ nm : Str, attributeBase x nm X.env (eval x X.env) = eval x X.env := fun nm => base_of po nm _ _
  have hline : (ap.endLine == pos.line) = true := by rw [hl]; exact beq_self_eq_true _
  have im : ∀ (r : V → List V → Hp → VK → Prop), (∀ (B : Addr → Prop) (a : Str) (v : V) (yv : D) (w : Vl) (H : Hp) (Q : VK), (∀ a, B a → ∃ o, H a = some o) → RpW X.K B H v yv → m1D m (.str a) yv = some w → OPost X.K B H w Q → r (.str a) [v] H Q) →
      ∀ σ H Q, SemE X.K (fun env st => bnd (f env st) fun u s => bnd (g env s) fun v s' => ret (m1D m u v) s') σ H Q → tM1 r (SemB X.K f) (SemB X.K g) σ H Q := fun r hr σ H Q h => by
    obtain ⟨M, U, st, env, w, st', er, ex, q⟩ := h
    obtain ⟨u, s, e1, ex⟩ := bnd_eq ex
    obtain ⟨yv, s', e2, ex⟩ := bnd_eq ex
    obtain ⟨w', e3, ex⟩ := Option.map_eq_some_iff.mp ex
    cases ex
    obtain ⟨a, rfl⟩ := m1_str e3
    refine ⟨M, U, st, env, _, s, er, e1, fun v H1 M1 s1 so1 r1 => ?_⟩
    cases r1.w.str
    refine ⟨⟨a, rfl⟩, M1, U, s, env, yv, _, er.step s1 so1, e2, fun v2 H2 M2 s2 so2 r2 => ?_⟩
    exact hr (Bar M2 U) a v2 yv w H2 Q so2.tracked r2.w e3 (EPost.op q (s1.trans s2) so2 (m1_nf e3))
  cases m with
  | join =>
    refine peImp (pe_join hx hy hs (hb _) hline) (im _ fun B a v yv w H Q tr rv e q => ?_)
    obtain ⟨ys, e1, e⟩ := Option.bind_eq_some_iff.mp (show ((items yv).bind strsD).bind (fun ys => if (ys.map (·.length)).sum + ys.length * a.length ≤ SL then some (Vl.d (.str (Txt.join a ys))) else none) = some w from e)
    obtain ⟨hz, e⟩ := dec2 e
    cases e
    obtain ⟨xs, e2, e3⟩ := Option.bind_eq_some_iff.mp e1
    cases yv with
    | list l =>
      cases e2
      obtain ⟨p, vs, rfl, hp, ra⟩ := rv.list
      exact ⟨a, p, ys, rfl, rfl, .inl (by rw [← rp_strs ra e3]; exact hp), hz, q _ _ grow0 (.str _)⟩
    | tuple l =>
      cases e2
      obtain ⟨p, vs, rfl, hp, ra, _⟩ := rv.tuple
      exact ⟨a, p, ys, rfl, rfl, .inr (by rw [← rp_strs ra e3]; exact hp), hz, q _ _ grow0 (.str _)⟩
    | _ => cases e2
  | split =>
    refine peImp (pe_split hx hy hs (hb _) hline) (im _ fun B a v yv w H Q tr rv e q => ?_)
    cases yv with
    | str b =>
      obtain ⟨hz, e⟩ := dec2 (show (if b.length ≠ 0 ∧ a.length + 2 ≤ SL then some (Vl.fr (.list ((Txt.split a b).map .str))) else none) = some w from e)
      cases e
      cases rv.str
      exact ⟨a, b, rfl, rfl, by simpa using hz.1, SL_le hz.2, fun p n => lstEnd (rp_of_strs _) q n⟩
    | _ => cases e
  | count =>
    refine peImp (pe_m1 PySem.F.slot_str_count PySem.F.type_str_count mt_count hx hy hs (hb _) hline) (im _ fun B a v yv w H Q tr rv e q => ?_)
    cases yv with
    | str b =>
      cases e
      cases rv.str
      exact ⟨a, b, rfl, rfl, q _ _ grow0 (.int _)⟩
    | _ => cases e
/-! dicts -/
theorem se_dnew {t : Bool} : PE X (.Dict [] [] pos) (SemE X.K fun env st => some (.fr (.dict (if t then [(.tuple [], .none)] else [])), st)) := by
  cases t with
  | false =>
    refine peImp pe_dnewK fun σ H Q ⟨M, U, st, env, w, st', er, ex, q⟩ p hp => ?_
    cases ex
    have nM : p ∉ M := fun z => by
      obtain ⟨o, e⟩ := er.sto.tracked p (.inl z)
      rw [hp] at e; cases e
    have q' := EPost.op q Stp.refl er.sto (fun n z => nomatch z)
    exact q' p _ (growN hp) hp (.inl ⟨[], upd_same, .nil⟩)
  | true =>
    refine peImp pe_dnewT fun σ H Q ⟨M, U, st, env, w, st', er, ex, q⟩ p hp => ?_
    cases ex
    have q' := EPost.op q Stp.refl er.sto (fun n z => nomatch z)
    exact q' p _ (growN hp) hp (.inr ⟨[], [], rfl, upd_same, .nil⟩)
def tDGetG (K : PySem.W.Frag) (td ty tx : TE) : TE := fun σ H Q => td σ H fun x H1 => ∃ a, x = .ref a ∧ IsD H1 a ∧ ty σ H1 fun y H2 => tx σ H2 fun z H3 => ∃ o, DG K H3 a y o ∧ Q (o.getD z) H3
theorem pe_dget2G {o e f : Expr} {apos cpos : Pos} {td ty tx : TE} (hu : X.A.units + 1 < cLine) (ho : PE X o td) (he : PE X e ty) (hf : PE X f tx) (m : M2 X o "get" apos e f cpos) : PE X (.Call (.Attribute o "get" apos) [e, f] [] cpos) (tDGetG X.K td ty tx) := by
  refine ⟨fun pins s σ H Q I h => ?_⟩
  refine wpAny_Call_method m.base m.few m.line PySem.F.plainAttrs_dict PySem.F.slot_dict_get PySem.F.type_dict_get (thn (ho.run pins s σ H _ I h) fun u s1 ⟨x, H1, I1, rx, a, ex, d, q1⟩ => ?_)
  subst ex
  obtain rfl : u = Value.ref a := rx
  obtain ⟨t1, t2, _⟩ := isD_at I1 d
  refine ⟨t1, t2, ?_⟩
  rw [m.trees]
  refine Calls.callWith_builtin rfl (Calls.evalArgs_plain (Calls.spliced_cons (thn (he.run pins s1 σ H1 _ I1 q1) fun iv s2 ⟨y, H2, I2, ry, q2⟩ =>
    Calls.spliced_cons (thn (hf.run pins s2 σ H2 _ I2 q2) fun fv s3 ⟨z, H3, I3, rz, ov, g, q3⟩ => Calls.spliced_nil ?_))))
  exact dg_get2 hu I3 g ry rz fun w' s4 I4 rw' => ⟨_, H3, I4, rw', q3⟩
theorem se_dget2 {z : Expr} {h : Ev → Sto → Option (D × Sto)} {ap pos : Pos} (hu : X.A.units + 1 < cLine) (hl : ap.endLine = pos.line) (po : plainO x = true) (ny : nice y = true) (nz : nice z = true) (hx : PE X x (SemB X.K f)) (hy : PE X y (SemB X.K g)) (hz : PE X z (SemD X.K h)) :
    PE X (.Call (.Attribute x "get" ap) [y, z] [] pos) (SemE X.K fun env st => bnd (f env st) fun u s => bnd (g env s) fun v s1 => bnd (h env s1) fun w s2 => ret (getD2 u v w) s2) := by
  have e1 := star1 ny [z] X.env
  have e2 := star1 nz [] X.env
  refine peImp (pe_dget2G hu hx hy hz ⟨base_of po _ _ _, by rw [e1, e2]; rfl, by rw [hl]; exact beq_self_eq_true _, by rw [e1, e2]; rfl⟩) fun σ H Q ⟨M, U, st, env, w, st', er, ex, q⟩ => ?_
  obtain ⟨u, s, f1, ex⟩ := bnd_eq ex
  obtain ⟨v, s1, f2, ex⟩ := bnd_eq ex
  obtain ⟨d, s2, f3, ex⟩ := bnd_eq ex
  obtain ⟨w', e4, ex⟩ := Option.map_eq_some_iff.mp ex
  cases ex
  cases u with
  | dict ds =>
    obtain ⟨o, e5, e6⟩ := Option.map_eq_some_iff.mp (show (dget ds v).map (fun o => Vl.d (o.getD d)) = some w from e4)
    subst e6
    refine ⟨M, U, st, env, _, s, er, f1, fun xv H1 M1 p1 so1 r1 => ?_⟩
    have isd : ∃ a, xv = .ref a ∧ IsD H1 a := by
      rcases r1.w with r | ⟨a, rfl, r⟩
      · cases r with
        | dK n e r => exact ⟨_, rfl, .inl ⟨_, .inl e⟩⟩
        | dT n e r => exact ⟨_, rfl, .inr ⟨_, .inl e⟩⟩
      · rcases r with ⟨kvs, e, r⟩ | ⟨kvs, es, q, e, r⟩
        · exact ⟨a, rfl, .inl ⟨kvs, .inl e⟩⟩
        · exact ⟨a, rfl, .inr ⟨kvs, .inl e⟩⟩
    obtain ⟨a, rfl, hd⟩ := isd
    refine ⟨a, rfl, hd, M1, U, s, env, v, s1, er.step p1 so1, f2, fun yv H2 M2 p2 so2 r2 => ⟨M2, U, s1, env, d, _, (er.step p1 so1).step p2 so2, f3, fun zv H3 M3 p3 so3 r3 => ?_⟩⟩
    obtain ⟨a', o', ea, dg, ro⟩ := dg_of ((r1.step p2 so1.ap).step p3 so2.ap).w (r2.step p3 so2.ap).w e5
    cases ea
    refine ⟨o', dg, ?_⟩
    have q' := EPost.op q ((p1.trans p2).trans p3) so3 (fun n z => nomatch z)
    refine q' _ _ grow0 ?_
    cases o' with
    | none =>
      cases o with
      | none => exact r3
      | some x => exact ro.elim
    | some v' =>
      cases o with
      | none => exact ro.elim
      | some x => exact ro
  | none => cases e4
  | bool b => cases e4
  | int b => cases e4
  | str b => cases e4
  | list b => cases e4
  | tuple b => cases e4
/-! x.index(y) -/
theorem peOr {x : Expr} {t t' : TE} (h1 : PE X x t) (h2 : PE X x t') : PE X x (fun σ H Q => t σ H Q ∨ t' σ H Q) := ⟨fun pins s σ H Q I q => q.elim (h1.run pins s σ H Q I) (h2.run pins s σ H Q I)⟩
theorem find_at {α : Type} {p : α → Bool} {xs : List α} {j : Nat} (h : xs.findIdx? p = some j) : ∃ z, xs[j]? = some z ∧ p z = true ∧ ∀ (m : Nat) (z' : α), m < j → xs[m]? = some z' → p z' = false := by
  obtain ⟨h1, h2, h3⟩ := List.findIdx?_eq_some_iff_getElem.mp h
  refine ⟨xs[j], List.getElem?_eq_getElem h1, h2, fun m z' hm hz => ?_⟩
  obtain ⟨hl, rfl⟩ := List.getElem?_eq_some_iff.mp hz
  simpa using h3 m hm
/-- a tuple whose object is known, asked for a place -/
def tIdxT (K : PySem.W.Frag) (td ty : TE) : TE := fun σ H Q => td σ H fun x H1 => ∃ a, x = .ref a ∧ (∃ (o : Obj) (xs : List V), o.dict = none ∧ H1 a = some (.frz o (.tup xs))) ∧ ty σ H1 fun y H2 => ∃ ys : List Str, ∃ z j, y = .str z ∧ SqT K H2 a (ys.map V.str) ∧ ys[j]? = some z ∧ (∀ m, m < j → ys[m]? ≠ some z) ∧ Q (.int (j : Nat)) H2
theorem pe_idxT {o e : Expr} {apos cpos : Pos} {td ty : TE} (ho : PE X o td) (he : PE X e ty) (hb : attributeBase o "index" X.env (eval o X.env) = eval o X.env) (hf : ((backTo cpos (starEach [e] X.env)).all (fun x => !x.1) && (backToKw cpos (keywordEach [] X.env)).all (fun x => x.1.isSome)
      && decide ([e].length + ([] : List Keyword).length + (if ([] : List Keyword).isEmpty then 0 else 1) < 30)) = true) (hl : (apos.endLine == cpos.line) = true) (hs : starEach [e] X.env = [(false, eval e X.env)]) : PE X (.Call (.Attribute o "index" apos) [e] [] cpos) (tIdxT X.K td ty) := by
  refine ⟨fun pins s σ H Q I h => ?_⟩
  refine wpAny_Call_method hb hf hl PySem.F.plainAttrs_tuple PySem.F.slot_tuple_index PySem.F.type_tuple_index (thn (ho.run pins s σ H _ I h) fun u s1 ⟨x, H1, I1, rx, a, ex, ⟨ob, xs, hd, hk⟩, q1⟩ => ?_)
  subst ex
  obtain rfl : u = Value.ref a := rx
  obtain ⟨g1, _, its, rv, o2, e2, c2, _⟩ := I1.hok a _ hk
  rw [g1] at e2
  cases e2
  refine ⟨⟨ob, g1, c2⟩, fun b eb => by cases eb; exact ⟨ob, g1, hd⟩, ?_⟩
  rw [hs]
  refine Calls.callWith_builtin rfl (Calls.evalArgs_plain (Calls.spliced_cons (thn (he.run pins s1 σ H1 _ I1 q1) fun iv s2 ⟨y, H2, I2, ry, ys, z, j, ey, hq, h1, h2, q2⟩ => Calls.spliced_nil ?_)))
  subst ey
  exact mt_tup_index pins s2 σ H2 (.ref a) [.str z] _ _ Q I2 rfl (.cons ry .nil) ⟨a, ys, z, j, rfl, rfl, hq, h1, h2, q2⟩
theorem strs_len {xs : List D} : ∀ {ys : List Str}, strsD xs = some ys → xs = ys.map PyData.str := by
  induction xs with
  | nil => intro ys h; cases h; rfl
  | cons d xs ih =>
    intro ys h
    cases d with
    | str x =>
      obtain ⟨zs, e1, rfl⟩ := Option.map_eq_some_iff.mp (show (strsD xs).map (x :: ·) = some ys from h)
      rw [ih e1]; rfl
    | _ => cases h
theorem se_idx {ap pos : Pos} (hu : X.A.units + 65 < cLine) (hl : ap.endLine = pos.line) (po : plainO x = true) (ny : nice y = true) (hx : PE X x (SemB X.K f)) (hy : PE X y (SemB X.K g)) :
    PE X (.Call (.Attribute x "index" ap) [y] [] pos) (SemE X.K fun env st => bnd (f env st) fun u s => bnd (g env s) fun v s' => ret (idxD u v) s') := by
  have hs : starEach [y] X.env = [(false, eval y X.env)] := star1 ny [] X.env
  have hline : (ap.endLine == pos.line) = true := by rw [hl]; exact beq_self_eq_true _
  have hb := base_of po "index" X.env (eval x X.env)
  refine peImp (peOr (pe_bm PySem.F.plainAttrs_list PySem.F.slot_list_index PySem.F.type_list_index (mt_indexD hu) hx (pa_cons hy pa_nil hs) hb (few1 ny pos _) hline hs rfl) (pe_idxT hx hy hb (few1 ny pos _) hline hs)) fun σ H Q ⟨M, U, st, env, w, st', er, ex, q⟩ => ?_
  obtain ⟨u, s, e1, ex⟩ := bnd_eq ex
  obtain ⟨v, s', e2, ex⟩ := bnd_eq ex
  obtain ⟨w', e3, ex⟩ := Option.map_eq_some_iff.mp ex
  cases ex
  cases u with
  | list xs =>
    obtain ⟨hk, e3⟩ := dec2' (show (if (PySem.SeqAt.shaped (.list xs) && PySem.SeqAt.shaped v) = true then (xs.findIdx? fun z => PyData.eqv z v).map fun j => Vl.d (.int (j : Nat)) else none) = some w from e3)
    rw [Bool.and_eq_true] at hk
    obtain ⟨j, e4, rfl⟩ := Option.map_eq_some_iff.mp e3
    obtain ⟨z, z1, z2, z3⟩ := find_at e4
    have cl : ∀ d : D, PySem.SeqAt.shaped d = true → d.plain = true := fun d h => by
      have h : (d.canLay0 && decide (d.depth ≤ 64)) = true := h
      rw [Bool.and_eq_true] at h
      exact PySem.PyData.plain_of_canLay0 d h.1
    refine .inl ⟨M, U, st, env, _, s, er, e1, fun xv H1 M1 p1 so1 r1 => ?_⟩
    obtain ⟨a, vs, rfl, ha, _⟩ := r1.w.list
    refine ⟨.inl ⟨rfl, vs, ha⟩, M1, U, s, env, v, _, er.step p1 so1, e2, fun yv H2 M2 p2 so2 r2 => ?_⟩
    have r1' := (r1.step p2 so1.ap).w
    exact ⟨a, yv, v, xs, j, z, rfl, rfl, r1'.dp (cl _ hk.1), r2.w.dp (cl _ hk.2), hk.1, hk.2, z1, z2, z3, EPost.op q (p1.trans p2) so2 (fun n z => nomatch z) _ _ grow0 (.int _)⟩
  | tuple xs =>
    obtain ⟨hk, e3⟩ := dec2' (show (if kB = true then (match v with
      | .str z => (strsD xs).bind fun ys => (ys.findIdx? fun w => w == z).map fun j => Vl.d (.int (j : Nat))
      | _ => none) else none) = some w from e3)
    cases v with
    | str z =>
      obtain ⟨ys, e4, e5⟩ := Option.bind_eq_some_iff.mp (show (strsD xs).bind (fun ys => (ys.findIdx? fun w => w == z).map fun j => Vl.d (.int (j : Nat))) = some w from e3)
      obtain ⟨j, e6, rfl⟩ := Option.map_eq_some_iff.mp e5
      obtain ⟨z', z1, z2, z3⟩ := find_at e6
      obtain rfl : z' = z := by simpa using z2
      refine .inr ⟨M, U, st, env, _, s, er, e1, fun xv H1 M1 p1 so1 r1 => ?_⟩
      have known : ∃ a, xv = .ref a ∧ ∃ (o : Obj) (us : List V), o.dict = none ∧ H1 a = some (.frz o (.tup us)) := by
        rcases r1 with r | ⟨a, rfl, _, h⟩
        · cases r with
          | tup h _ =>
            rcases h.2 with ⟨o, ho, h⟩ | ⟨k, _⟩
            · exact ⟨_, rfl, o, _, ho, h⟩
            · rw [hk] at k; cases k
        · exact h.elim
      obtain ⟨a, rfl, hkn⟩ := known
      refine ⟨a, rfl, hkn, M1, U, s, env, _, _, er.step p1 so1, e2, fun yv H2 M2 p2 so2 r2 => ?_⟩
      cases r2.w.str
      obtain ⟨a', vs, ea, ha, ra, _⟩ := (r1.step p2 so1.ap).w.tuple
      cases ea
      rw [rp_strs ra e4] at ha
      exact ⟨ys, z', j, rfl, ha, z1, fun m hm e => by have := z3 m z' hm e; simp at this, EPost.op q (p1.trans p2) so2 (fun n z => nomatch z) _ _ grow0 (.int _)⟩
    | _ => cases e3
  | none => cases e3
  | bool b => cases e3
  | int b => cases e3
  | str b => cases e3
  | dict b => cases e3
end
end Pi

end
section
set_option Elab.async false
set_option linter.all false
set_option maxRecDepth 100000
set_option maxHeartbeats 1000000
namespace Pi
open PySem PySem.Spec PyProof.Rows L2
section
variable {X : Cx} {x y z : Expr} {pos : Pos} {f g h : Ev → Sto → Option (D × Sto)}
/-! ### isinstance -/
def Ty.name : Ty → String
  | .list => "list" | .tuple => "tuple" | .bool => "bool" | .int => "int" | .str => "str"
def Ty.id : Ty → Str
  | .list => "list" | .tuple => "tuple" | .bool => "bool" | .int => "int" | .str => "str"
def tyN : D → String
  | .none => "NoneType" | .bool _ => "bool" | .int _ => "int" | .str _ => "str" | .list _ => "list" | .tuple _ => "tuple" | .dict _ => "dict"
theorem tyX {K : PySem.W.Frag} {B : Addr → Prop} {H : Hp} {v : V} {u : D} (r : RpW K B H v u) (n : noDict u = true) : TyX K H v (.type (tyN u)) := by
  have sl : ∀ {a vs}, SqL K H a vs → TyX K H (.ref a) (.type "list") := fun {a vs} q => by
    rcases q with (q | ⟨o, q⟩) | ⟨o, its, n, q, c, _⟩
    · exact .base (.lst q)
    · exact .base (.frz q)
    · exact .kList q c
  have st : ∀ {a vs}, SqT K H a vs → TyX K H (.ref a) (.type "tuple") := fun {a vs} q => by
    rcases q with (q | ⟨o, q⟩) | ⟨o, its, n, q, c, _⟩
    · exact .base (.tup q)
    · exact .fTuple q
    · exact .kTuple q c
  cases u with
  | none => cases r.none; exact .base .non
  | bool b => cases r.bool; exact .base (.bl b)
  | int b => cases r.int; exact .base (.int b)
  | str b => cases r.str; exact .base (.str b)
  | list b => obtain ⟨a, vs, rfl, q, _⟩ := r.list; exact sl q
  | tuple b => obtain ⟨a, vs, rfl, q, _⟩ := r.tuple; exact st q
  | dict b => cases n
theorem kitB_ok (u : D) (n : noDict u = true) (t : Ty) : kitB (tyN u) t.name = some (isTy u t) := by
  cases u <;> first | (cases n; done) | skip
  all_goals cases t <;> (simp only [tyN, Ty.name, isTy]; decide +kernel)
theorem kitAny_ok {K : PySem.W.Frag} (u : D) (n : noDict u = true) : ∀ ts : List Ty, PySem.W.kitAny K (.type (tyN u)) (ts.map fun t => Value.type t.name) = some (ts.any (isTy u))
  | [] => rfl
  | t :: ts => by
    show PySem.W.kitAny K _ (Value.type t.name :: ts.map fun t => Value.type t.name) = some (isTy u t || ts.any (isTy u))
    refine kitAny_cons (kit_ty (kitB_ok u n t)) (fun e => ?_) fun e => ?_
    · rw [e]; exact kitAny_ok u n ts
    · rw [e]; rfl
theorem se_ty {t : Ty} {p : Pos} (hg : Gl X t.id) (hm : X.mg t.id = none) : PE X (.Name t.id p) (tC (.ty t.name)) := by
  cases t with
  | list => exact pe_bltn (u := .type "list") hg hm (by decide +kernel) rfl (by decide +kernel) (by decide +kernel)
  | tuple => exact pe_bltn (u := .type "tuple") hg hm (by decide +kernel) rfl (by decide +kernel) (by decide +kernel)
  | bool => exact pe_bltn (u := .type "bool") hg hm (by decide +kernel) rfl (by decide +kernel) (by decide +kernel)
  | int => exact pe_bltn (u := .type "int") hg hm (by decide +kernel) rfl (by decide +kernel) (by decide +kernel)
  | str => exact pe_bltn (u := .type "str") hg hm (by decide +kernel) rfl (by decide +kernel) (by decide +kernel)
/-- names of types -/
inductive Tys (X : Cx) : List Ty → List Expr → Prop
  | nil : Tys X [] []
  | cons {t : Ty} {p : Pos} {ts : List Ty} {es : List Expr} : Gl X t.id → X.mg t.id = none → Tys X ts es → Tys X (t :: ts) (.Name t.id p :: es)
theorem sa_tys : ∀ {ts : List Ty} {es : List Expr}, Tys X ts es → PA X es (fun _ H Q => Q (ts.map fun t => V.ty t.name) H)
  | _, _, .nil => pa_nil
  | _, _, .cons hg hm r => pa_cons (se_ty hg hm) (sa_tys r) rfl
def isiF (ts : List Ty) (f : Ev → Sto → Option (D × Sto)) (env : Ev) (st : Sto) : Option (Vl × Sto) := bnd (f env st) fun x s => if noDict x then some (.d (.bool (ts.any (isTy x))), s) else none
theorem clsAll : ∀ ts : List Ty, Paired ClsV (ts.map fun t => V.ty t.name) (ts.map fun t => Value.type t.name)
  | [] => .nil
  | t :: ts => .cons (.ty _) (clsAll ts)
theorem isi_eq {ts : List Ty} {env : Ev} {st s : Sto} {w : Vl} (e : isiF ts f env st = some (w, s)) : ∃ u, f env st = some (u, s) ∧ noDict u = true ∧ w = .d (.bool (ts.any (isTy u))) := by
  obtain ⟨u, s1, e1, e2⟩ := bnd_eq e
  obtain ⟨n, e3⟩ := dec2 e2
  cases e3
  exact ⟨u, e1, n, rfl⟩
theorem se_isi1 {t : Ty} {p p2 : Pos} (hg : Gl X "isinstance") (hm : X.mg "isinstance" = none) (hg2 : Gl X t.id) (hm2 : X.mg t.id = none) (n : nice x = true) (hx : PE X x (SemB X.K f)) :
    PE X (.Call (.Name "isinstance" p) [x, .Name t.id p2] [] pos) (SemE X.K (isiF [t] f)) := by
  have s1 := star1 n [.Name t.id p2] X.env
  have pa : PA X [x, .Name t.id p2] (tCons (SemB X.K f) (tCons (tC (.ty t.name)) tNil)) := pa_cons hx (pa_cons (se_ty hg2 hm2) pa_nil rfl) s1
  refine peImp (pe_callB call_isi hg hm (by decide +kernel) pa (by decide +kernel) (by decide +kernel) s1 rfl) fun σ H Q ⟨M, U, st, env, w, s, er, ex, q⟩ => ?_
  obtain ⟨u, e1, nd, rfl⟩ := isi_eq ex
  refine ⟨M, U, st, env, u, s, er, e1, fun v H1 M1 p1 so1 r1 => ⟨v, .ty t.name, .type (tyN u), .type t.name, isTy u t, rfl, .ty _, tyX r1.w nd, kit_ty (kitB_ok u nd t), ?_⟩⟩
  have := EPost.op q p1 so1 (fun _ h => by cases h) (.bl (isTy u t)) H1 grow0
  refine this ?_
  rw [show [t].any (isTy u) = isTy u t by simp]
  exact .bl _
theorem se_isiT {ts : List Ty} {es : List Expr} {k : Nat} {p p2 : Pos} (hg : Gl X "isinstance") (hm : X.mg "isinstance" = none) (hts : Tys X ts es) (hl : ts.length ≤ SL) (n : nice x = true) (hx : PE X x (SemB X.K f)) :
    PE X (.Call (.Name "isinstance" p) [x, .Tuple es k p2] [] pos) (SemE X.K (isiF ts f)) := by
  have s1 := star1 n [.Tuple es k p2] X.env
  have pa := pa_cons hx (pa_cons (pe_tup (x1 := k) (pos := p2) (sa_tys hts)) pa_nil rfl) s1
  refine peImp (pe_callB call_isiT hg hm (by decide +kernel) pa (by decide +kernel) (by decide +kernel) s1 rfl) fun σ H Q ⟨M, U, st, env, w, s, er, ex, q⟩ => ?_
  obtain ⟨u, e1, nd, rfl⟩ := isi_eq ex
  refine ⟨M, U, st, env, u, s, er, e1, fun v H1 M1 p1 so1 r1 => ⟨by rw [List.length_map]; exact SL_le hl, fun pp np => ?_⟩⟩
  have nB : Keep (Bar M1 U) (Bar M1 U) H1 (upd H1 pp (.tup (ts.map fun t => V.ty t.name))) := keepN so1.tracked np
  have r2 : RpW X.K (Bar M1 U) (upd H1 pp (.tup (ts.map fun t => V.ty t.name))) v u := r1.w.keep nB fun a o h _ => growN np a o h
  exact ⟨v, pp, _, .type (tyN u), _, ts.any (isTy u), rfl, upd_same, clsAll ts, tyX r2 nd, kitAny_ok u nd ts, EPost.op q p1 so1 (fun _ h => by cases h) _ _ (growN np) (.bl _)⟩
/-! ### tuple(range(n)), list(range(n)) -/
theorem rg_vs (n : Int) {xs : List D} (e : rgD n = some xs) {K : PySem.W.Frag} {B : Addr → Prop} {H : Hp} : RgOk 0 n ∧ RpAll K B H (rgV 0 n) xs ∧ xs.length ≤ SL := by
  obtain ⟨hz, e⟩ := dec2 (show (if decide (-(2 ^ 62) ≤ n ∧ n < 16777216) = true then some ((List.range n.toNat).map fun i => PyData.int (i : Nat)) else none) = some xs from e)
  obtain ⟨h1, h2⟩ := of_decide_eq_true hz
  subst e
  refine ⟨⟨by omega, by omega, by omega, by omega, by omega⟩, ?_, by rw [List.length_map, List.length_range]; show n.toNat ≤ 16777216; omega⟩
  unfold rgV
  rw [Int.sub_zero]
  have : ∀ l : List Nat, RpAll K B H (l.map fun i => V.int (0 + (i : Nat))) (l.map fun i => PyData.int (i : Nat)) := fun l => by
    induction l with
    | nil => exact .nil
    | cons a l ih =>
      refine .cons ?_ ih
      show Rp K B H (.int (0 + (a : Nat))) (.int (a : Nat))
      rw [Int.zero_add]
      exact .int _
  exact this _
def rgF (b : Bool) (f : Ev → Sto → Option (D × Sto)) (env : Ev) (st : Sto) : Option (Vl × Sto) := bnd (f env st) fun x s => ret (((asInt x).bind rgD).map fun xs => if b then .d (.tuple xs) else .fr (.list xs)) s
theorem rg_eq {b : Bool} {env : Ev} {st s : Sto} {w : Vl} (e : rgF b f env st = some (w, s)) : ∃ n xs, f env st = some (.int n, s) ∧ rgD n = some xs ∧ w = if b then .d (.tuple xs) else .fr (.list xs) := by
  obtain ⟨u, s1, e1, e2⟩ := bnd_eq e
  obtain ⟨e3, rfl⟩ := ret_eq e2
  obtain ⟨xs, e4, e5⟩ := Option.map_eq_some_iff.mp e3
  obtain ⟨n, e6, e7⟩ := Option.bind_eq_some_iff.mp e4
  cases u with
  | int i => cases e6; exact ⟨_, xs, e1, e7, e5.symm⟩
  | none => cases e6
  | bool b => cases e6
  | str b => cases e6
  | list b => cases e6
  | tuple b => cases e6
  | dict b => cases e6
theorem se_trg {p p2 pos2 : Pos} (hc : X.calm = true) (hg : Gl X "tuple") (hm : X.mg "tuple" = none) (hg2 : Gl X "range") (hm2 : X.mg "range" = none) (n : nice x = true) (hx : PE X x (SemB X.K f)) :
    PE X (.Call (.Name "tuple" p) [.Call (.Name "range" p2) [x] [] pos2] [] pos) (SemE X.K (rgF true f)) :=
  peImp (Pk.pe_tupRgK hc hg hm (prg_1 hg2 hm2 hx (star1 n [] _)) rfl) fun σ H Q ⟨M, U, st, env, w, s, er, ex, q⟩ => by
    obtain ⟨n, xs, e1, e2, rfl⟩ := rg_eq ex
    refine ⟨M, U, st, env, _, s, er, e1, fun v H1 M1 p1 so1 r1 => ?_⟩
    cases r1.w.int
    obtain ⟨h1, h2, _⟩ := rg_vs n e2 (K := X.K) (B := Bar M1 U) (H := H1)
    exact ⟨n, rfl, h1, tupEnd so1.tracked h2 (EPost.op q p1 so1 (fun _ h => by cases h))⟩
theorem se_lrg {p p2 pos2 : Pos} (hc : X.calm = true) (hg : Gl X "list") (hm : X.mg "list" = none) (hg2 : Gl X "range") (hm2 : X.mg "range" = none) (n : nice x = true) (hx : PE X x (SemB X.K f)) :
    PE X (.Call (.Name "list" p) [.Call (.Name "range" p2) [x] [] pos2] [] pos) (SemE X.K (rgF false f)) :=
  peImp (pe_listRg hc hg hm (prg_1 hg2 hm2 hx (star1 n [] _)) rfl) fun σ H Q ⟨M, U, st, env, w, s, er, ex, q⟩ => by
    obtain ⟨n, xs, e1, e2, rfl⟩ := rg_eq ex
    refine ⟨M, U, st, env, _, s, er, e1, fun v H1 M1 p1 so1 r1 => ?_⟩
    cases r1.w.int
    obtain ⟨h1, h2, _⟩ := rg_vs n e2 (K := X.K) (B := Bar M1 U) (H := H1)
    exact ⟨n, rfl, h1, fun p np => lstEnd h2 (EPost.op q p1 so1 (fun _ h => by cases h)) np⟩
theorem se_lrg2 {y : Expr} {g : Ev → Sto → Option (D × Sto)} {p p2 pos2 : Pos} (hc : X.calm = true) (hg : Gl X "list") (hm : X.mg "list" = none) (hg2 : Gl X "range") (hm2 : X.mg "range" = none) (nx : nice x = true) (ny : nice y = true) (hx : PE X x (SemB X.K f)) (hy : PE X y (SemB X.K g)) :
    PE X (.Call (.Name "list" p) [.Call (.Name "range" p2) [x, y] [] pos2] [] pos) (SemE X.K fun env st => bnd (f env st) fun x s => bnd (g env s) fun y s' => ret (((asInt x).bind fun i => (asInt y).bind fun j => rg3D i j).map fun xs => .fr (.list xs)) s') := by
  have s2 := star1 ny [] X.env
  refine peImp (pe_listRg hc hg hm (prg_2 hg2 hm2 hx hy (star1 nx [y] _) s2 (by rw [s2]; rfl)) rfl) fun σ H Q ⟨M, U, st, env, w, s, er, ex, q⟩ => ?_
  obtain ⟨u, s1, e1, ex⟩ := bnd_eq ex
  obtain ⟨v, s2, e2, ex⟩ := bnd_eq ex
  obtain ⟨e3, rfl⟩ := ret_eq ex
  obtain ⟨xs, e4, e5⟩ := Option.map_eq_some_iff.mp e3
  obtain ⟨i, e6, e7⟩ := Option.bind_eq_some_iff.mp e4
  obtain ⟨j, e8, e9⟩ := Option.bind_eq_some_iff.mp e7
  cases u <;> first | (cases e6; done) | skip
  cases v <;> first | (cases e8; done) | skip
  cases e6
  cases e8
  subst e5
  obtain ⟨hz, e9⟩ := dec2 (show (if decide (-(2 ^ 61) ≤ i ∧ i < 2 ^ 61 ∧ -(2 ^ 61) ≤ j ∧ j < 2 ^ 61 ∧ (j - i).toNat ≤ 16777216) = true then some ((List.range (j - i).toNat).map fun k => PyData.int (i + (k : Nat))) else none) = some xs from e9)
  obtain ⟨h1, h2, h3, h4, h5⟩ := of_decide_eq_true hz
  subst e9
  refine ⟨M, U, st, env, _, _, er, e1, fun v H1 M1 p1 so1 r1 => ⟨M1, U, _, env, _, _, er.step p1 so1, e2, fun v2 H2 M2 p2 so2 r2 => ?_⟩⟩
  cases r1.w.int
  cases r2.w.int
  refine ⟨i, j, rfl, rfl, ⟨by omega, by omega, by omega, by omega, h5⟩, fun p np => lstEnd ?_ (EPost.op q (p1.trans p2) so2 (fun _ h => by cases h)) np⟩
  unfold rgV
  have : ∀ l : List Nat, RpAll X.K (Bar M2 U) H2 (l.map fun k => V.int (i + (k : Nat))) (l.map fun k => PyData.int (i + (k : Nat))) := fun l => by
    induction l with
    | nil => exact .nil
    | cons a l ih => exact .cons (.int _) ih
  exact this _
/-! ### calls -/
/-- what a def promises: the interpreter's answer -/
def spF (K : PySem.W.Frag) (c : List Vl → Sto → Option (Vl × Sto)) (np : Nat) : Sp := fun vs H Q _ => vs.length = np ∧ ∃ M U st ws w st', StoOk K M U H st ∧ VsAll K M U H vs ws ∧ c ws st = some (w, st') ∧ EPost K M U H st' w Q
/-- how keywords bind -/
def KwOk (K : PySem.W.Frag) (fd : FuncData) (ps : List Str) (n : Nat) (ks : List Str) (pm : List Nat) : Prop :=
  ∀ (s : Shared) (us ws : List Value), K.In s.heap → us.length = n → ws.length = ks.length → ∃ zs, pick (us ++ ws) pm = some zs ∧ BindsTo s fd ⟨us, ks.zip ws⟩ (ps.zip zs)
section
variable {k : Nat} {fa : Addr} {fd : FuncData} {ps : List Str} {c : List Vl → Sto → Option (Vl × Sto)} {nm : Str} {p : Pos}
theorem sem_call {t : TA} {gA : Ev → Sto → Option (List Vl × Sto)} (np : ∀ ws st r, c ws st = some r → ws.length = ps.length) (σ : L2.St) (H : Hp) (Q : VK)
    (h : SemE X.K (fun env st => bnd (gA env st) fun ws s => c ws s) σ H Q) (im : ∀ σ H Q, SemA X.K gA σ H Q → t σ H Q) : tCall (spF X.K c ps.length) [] E0 t σ H Q := by
  obtain ⟨M, U, st, env, w, s, er, ex, q⟩ := h
  obtain ⟨ws, s1, e1, e2⟩ := bnd_eq ex
  refine im _ _ _ ⟨M, U, st, env, ws, s1, er, e1, fun vs H1 M1 p1 so1 r1 => ?_⟩
  show spF X.K c ps.length (vs ++ []) H1 Q E0
  rw [List.append_nil]
  refine ⟨by rw [r1.length, np _ _ _ e2], M1, U, s1, ws, w, s, so1, r1, e2, ?_⟩
  cases w with
  | d x => exact fun v H' M' p' so' r => q v H' M' (p1.trans p') so' r
  | fr x =>
    intro a H' M' p' ha so' r
    have nM : a ∉ M := fun z => by
      obtain ⟨o, e⟩ := so1.tracked a (Or.inl (p1.mem z))
      rw [ha] at e; cases e
    exact q a H' M' (p1.trans p') (p1.none_of nM ha) so' r
  | rf n => exact fun a H' M' p' so' r => q a H' M' (p1.trans p') so' r
theorem noStars : ∀ l : List Expr, (∀ e ∈ l, nice e = true) → ∀ pos : Pos, (backTo pos (starEach l X.env)).any (·.1) = false
  | [], _, _ => rfl
  | a :: l, h, pos => by
    rw [star1 (h a List.mem_cons_self) l X.env]
    show (false || (backTo pos (starEach l X.env)).any (·.1)) = false
    rw [noStars l (fun e he => h e (List.mem_cons_of_mem _ he)) pos]
    rfl
theorem se_call0 (F : FnOk X.prog X.w X.K X.mg X.base CX0 k fa fd ps (spF X.K c ps.length)) (hr : Room k X.A) (hg : Gl X nm) (hm : X.mg nm = some (.ref fa)) (hk : PySem.W.keepIn X.K (.ref fa) = true) (hb : Binds X.K fd ps [])
    (np : ∀ ws st r, c ws st = some r → ws.length = ps.length) (hdb : (nm == ("__debug__" : Str)) = false) :
    PE X (.Call (.Name nm p) [] [] pos) (SemE X.K fun env st => bnd (some ([], st)) fun ws s => c ws s) :=
  peImp (pe_call0 F hr hg hm hk hb .nil pass0 hdb) fun σ H Q h => sem_call np σ H Q h fun σ H Q ⟨M, U, st, env, ws, s, er, e1, q⟩ => by
    cases e1
    exact q [] H M Stp.refl er.sto .nil
theorem se_call {e : Expr} {es : List Expr} {gA : Ev → Sto → Option (List Vl × Sto)} (F : FnOk X.prog X.w X.K X.mg X.base CX0 k fa fd ps (spF X.K c ps.length)) (hr : Room k X.A) (hg : Gl X nm) (hm : X.mg nm = some (.ref fa)) (hk : PySem.W.keepIn X.K (.ref fa) = true) (hb : Binds X.K fd ps [])
    (np : ∀ ws st r, c ws st = some r → ws.length = ps.length) (hdb : (nm == ("__debug__" : Str)) = false) (hn : ∀ a ∈ e :: es, nice a = true) (ha : PA X (e :: es) (SemA X.K gA)) :
    PE X (.Call (.Name nm p) (e :: es) [] pos) (SemE X.K fun env st => bnd (gA env st) fun ws s => c ws s) :=
  peImp (pe_call F hr hg hm hk hb .nil pass0 ha hdb (star1 (hn e List.mem_cons_self) es X.env) (noStars es (fun a h => hn a (List.mem_cons_of_mem _ h)) pos)) fun σ H Q h => sem_call np σ H Q h fun σ H Q h => h
/-- the names of keywords -/
def kwNames (ks : List Keyword) : List (Option Str) := ks.map fun k => match k with | ⟨n, _, _⟩ => n
theorem kw_each (pos : Pos) : ∀ ks : List Keyword, (backToKw pos (keywordEach ks X.env)).map (·.1) = kwNames ks
  | [] => rfl
  | ⟨n, v, q⟩ :: ks => by
    show n :: (backToKw pos (keywordEach ks X.env)).map (·.1) = n :: kwNames ks
    rw [kw_each pos ks]
theorem kw_all {pos : Pos} {ks : List Keyword} {ns : List Str} (h : kwNames ks = ns.map some) : (backToKw pos (keywordEach ks X.env)).all (·.1.isSome) = true ∧ (backToKw pos (keywordEach ks X.env)).filterMap (·.1) = ns ∧ (backToKw pos (keywordEach ks X.env)).any (·.1.isNone) = false := by
  have e := kw_each (X := X) pos ks
  rw [h] at e
  generalize backToKw pos (keywordEach ks X.env) = l at e ⊢
  induction l generalizing ns ks with
  | nil => cases ns with
    | nil => exact ⟨rfl, rfl, rfl⟩
    | cons a b => cases e
  | cons a l ih => cases ns with
    | nil => cases e
    | cons b bs =>
      obtain ⟨e1, e2⟩ := List.cons.inj e
      have e1 : a.1 = some b := e1
      obtain ⟨h1, h2, h3⟩ := ih (ks := bs.map fun s => ⟨some s, .Tuple [] 0 ⟨0, 0, 0, 0⟩, ⟨0, 0, 0, 0⟩⟩) (ns := bs) (by unfold kwNames; rw [List.map_map]; rfl) e2
      simp [List.all_cons, List.filterMap_cons, List.any_cons, e1, h1, h2, h3]
theorem pick_rel : ∀ {pm : List Nat} {vs : List V} {us : List Value} {xs : List V} {ys : List Value}, Vals vs us → pick vs pm = some xs → pick us pm = some ys → Vals xs ys
  | [], _, _, _, _, _, e, e' => by cases e; cases e'; exact .nil
  | i :: is, vs, us, xs, ys, ra, e, e' => by
    obtain ⟨a, e1, e⟩ := Option.bind_eq_some_iff.mp (show (vs[i]?).bind (fun x => (Pi.pick vs is).map (x :: ·)) = some xs from e)
    obtain ⟨b, e2, e'⟩ := Option.bind_eq_some_iff.mp (show (us[i]?).bind (fun x => (Pi.pick us is).map (x :: ·)) = some ys from e')
    obtain ⟨xs', e3, rfl⟩ := Option.map_eq_some_iff.mp e
    obtain ⟨ys', e4, rfl⟩ := Option.map_eq_some_iff.mp e'
    obtain ⟨u, e5, ru⟩ := ra.get e1
    rw [e2] at e5
    cases e5
    exact .cons ru (pick_rel ra e3 e4)
theorem run_kw {pins : List (Addr × Obj)} {σ : L2.St} {H : Hp} {s : Shared} {Q : VK} {us ws : List Value} {vs zs : List V} {n : Nat} {ks : List Str} {pm : List Nat} {xs : List V} (F : FnOk X.prog X.w X.K X.mg X.base CX0 k fa fd ps (spF X.K c ps.length)) (hr : Room k X.A) (hb : KwOk X.K fd ps n ks pm)
    (I : Inv X pins σ H s) (r : Vals vs us) (rz : Vals zs ws) (l1 : vs.length = n) (l2 : zs.length = ks.length) (hx : pick (vs ++ zs) pm = some xs) (h : spF X.K c ps.length xs H Q E0) : wpAny (model X.prog X.w) X.A (call (.ref fa) us (ks.zip ws)) (EP X pins σ Q) X.xe s := by
  obtain ⟨ys, hy, bt⟩ := hb s us ws I.kIn (r.length.symm.trans l1) (rz.length.symm.trans l2)
  have rel : Vals xs ys := pick_rel (r.append rz) hx hy
  refine wpAny_call (codeAny_mono (F.run X.A X.stack s H ⟨us, ks.zip ws⟩ ys xs Q E0 hr I.env0 bt rel h) fun r s' hq => ?_)
  cases r with
  | error e => exact hq.elim
  | ok fl =>
    cases fl with
    | ret u => exact I.after hq
    | next => exact False.elim hq
    | brk => exact False.elim hq
    | cont => exact False.elim hq
theorem se_callk {es : List Expr} {kws : List Keyword} {gA gK : Ev → Sto → Option (List Vl × Sto)} {n : Nat} {ks : List Str} {pm : List Nat} (F : FnOk X.prog X.w X.K X.mg X.base CX0 k fa fd ps (spF X.K c ps.length)) (hr : Room k X.A) (hg : Gl X nm) (hm : X.mg nm = some (.ref fa)) (hk : PySem.W.keepIn X.K (.ref fa) = true) (hb : KwOk X.K fd ps n ks pm)
    (np : ∀ ws st r, c ws st = some r → ws.length = ps.length) (hdb : (nm == ("__debug__" : Str)) = false) (hn : ∀ a ∈ es, nice a = true) (ha : PA X es (SemA X.K gA)) (hkw : PK X kws (SemA X.K gK)) (hks : kwNames kws = ks.map some)
    (la : ∀ env st ws s, gA env st = some (ws, s) → ws.length = n) (lk : ∀ env st ws s, gK env st = some (ws, s) → ws.length = ks.length) (hnil : es = [] → ∀ env st, gA env st = some ([], st)) :
    PE X (.Call (.Name nm p) es kws pos) (SemE X.K fun env st => bnd (gA env st) fun ws s => bnd (gK env s) fun zs s' => bnd (ret (pick (ws ++ zs) pm) s') fun us s' => c us s') := by
  refine ⟨fun pins s σ H Q I h => ?_⟩
  obtain ⟨M, U, st, env, w, st', er, ex, q⟩ := h
  obtain ⟨ws, s1, e1, ex⟩ := bnd_eq ex
  obtain ⟨zs, s2, e2, ex⟩ := bnd_eq ex
  obtain ⟨us, s3, e3, ex⟩ := bnd_eq ex
  obtain ⟨e4, rfl⟩ := ret_eq e3
  obtain ⟨k1, k2, k3⟩ := kw_all (X := X) (pos := pos) hks
  -- the call behind both
  have fin : ∀ {us' ws' : List Value} {vs zv : List V} {s' : Shared} {H1 H2 : Hp} {M1 M2 : List Addr}, Stp M H M1 H1 → StoOk X.K M1 U H1 s1 → VsAll X.K M1 U H1 vs ws → Vals vs us' → Stp M1 H1 M2 H2 → StoOk X.K M2 U H2 s2 → VsAll X.K M2 U H2 zv zs → Vals zv ws' → Inv X pins σ H2 s' →
      wpAny (model X.prog X.w) X.A (call (.ref fa) us' (ks.zip ws')) (EP X pins σ Q) X.xe s' := fun {us' ws' vs zv s' H1 H2 M1 M2} p1 so1 r1 v1 p2 so2 r2 v2 I2 => by
    obtain ⟨xs, e5, r5⟩ := ((r1.step p2).append r2).pick e4
    refine run_kw F hr hb I2 v1 v2 (by rw [r1.length]; exact la _ _ _ _ e1) (by rw [r2.length]; exact lk _ _ _ _ e2) e5 ⟨by rw [r5.length, np _ _ _ ex], M2, U, _, us, w, _, so2, r5, ex, ?_⟩
    have p12 := p1.trans p2
    cases w with
    | d x => exact fun v H' M' p' so' r => q v H' M' (p12.trans p') so' r
    | fr x =>
      intro a H' M' p' ha so' r
      have nM : a ∉ M := fun z => by
        obtain ⟨o, e⟩ := so2.tracked a (Or.inl (p12.mem z))
        rw [ha] at e; cases e
      exact q a H' M' (p12.trans p') (p12.none_of nM ha) so' r
    | rf n => exact fun a H' M' p' so' r => q a H' M' (p12.trans p') so' r
  refine wpAny_Call_Name_kw (ld_glob I hg hm ?_ hdb)
  cases es with
  | nil =>
    have e1' := hnil rfl env st
    rw [e1] at e1'
    cases e1'
    refine PySem.W.callWith_KW0 (h₀ := X.base) I.ok.mod.kin hk k1 ?_ (by rw [k3]; rfl)
    refine thn (hkw.run pos pins s σ H (fun zv H2 => ∃ M2, Stp M H M2 H2 ∧ StoOk X.K M2 U H2 s2 ∧ VsAll X.K M2 U H2 zv zs) I ⟨M, U, _, env, zs, s2, er, e2, fun zv H2 M2 p2 so2 r2 => ⟨M2, p2, so2, r2⟩⟩) fun ws' s2' ⟨zv, H2, I2, v2, M2, p2, so2, r2⟩ => ⟨I2.kIn, ?_⟩
    rw [k2]
    exact fin (us' := []) Stp.refl er.sto .nil .nil p2 so2 r2 v2 I2
  | cons e es =>
    refine PySem.W.callWith_KW (h₀ := X.base) I.ok.mod.kin hk k1 (thn (ha.run pos pins s σ H (fun vs H1 => ∃ M1, Stp M H M1 H1 ∧ StoOk X.K M1 U H1 s1 ∧ VsAll X.K M1 U H1 vs ws) I ⟨M, U, st, env, ws, s1, er, e1, fun vs H1 M1 p1 so1 r1 => ⟨M1, p1, so1, r1⟩⟩) fun us' s' ⟨vs, H1, I1, v1, M1, p1, so1, r1⟩ => ?_) (by rw [k3, noStars (e :: es) hn pos]; rfl) (star1 (hn e List.mem_cons_self) es X.env)
    refine thn (hkw.run pos pins s' σ H1 (fun zv H2 => ∃ M2, Stp M1 H1 M2 H2 ∧ StoOk X.K M2 U H2 s2 ∧ VsAll X.K M2 U H2 zv zs) I1 ⟨M1, U, s1, env, zs, s2, er.step p1 so1, e2, fun zv H2 M2 p2 so2 r2 => ⟨M2, p2, so2, r2⟩⟩) fun ws' s2' ⟨zv, H2, I2, v2, M2, p2, so2, r2⟩ => ⟨I2.kIn, ?_⟩
    rw [k2]
    exact fin p1 so1 r1 v1 p2 so2 r2 v2 I2
end
end
end Pi

end
section
set_option Elab.async false
set_option linter.all false
set_option maxRecDepth 100000
set_option maxHeartbeats 1000000
namespace Pi
open PySem PySem.Spec PyProof.Rows L2
/-! ### what is walked, while other things change -/
def Lat (M0 : List Addr) (U Z : Addr → Prop) (H0 : Hp) (M' : List Addr) (U' : Addr → Prop) (H : Hp) : Prop :=
  (∀ a ∈ M', a ∈ M0 ∨ H0 a = none) ∧ (∀ a, U' a → U a ∨ H0 a = none) ∧ (∀ a, Bar M' U' a → ∃ o, H a = some o) ∧
    ∃ W0 : Addr → Prop, (∀ a, W0 a → U a) ∧ (∀ a, Z a → ¬ W0 a) ∧ ∀ a o, a ∉ M0 → ¬ W0 a → H0 a = some o → H a = some o
structure WD (K : PySem.W.Frag) (M0 : List Addr) (U Z : Addr → Prop) (H0 : Hp) (J : L2.It) (xs : List D) : Prop where
  go : ∀ M' U' H i, Lat M0 U Z H0 M' U' H → i < xs.length → J.go i H
  stop : ∀ M' U' H, Lat M0 U Z H0 M' U' H → J.stop xs.length H
  yld : ∀ M' U' H i x H', Lat M0 U Z H0 M' U' H → i < xs.length → J.yld i H x H' → ∃ d, xs[i]? = some d ∧ (∀ a o, H a = some o → H' a = some o) ∧ Rp K (Bar M' U') H' x d
def SemIZ (z : L2.St → Ev → Addr → Prop) (K : PySem.W.Frag) (g : Ev → Sto → Option (List D × Sto)) : TI := fun σ H R => ∃ M U st env xs st', ER K M U H st σ env ∧ g env st = some (xs, st') ∧
  ∀ J H' M', Stp M H M' H' → StoOk K M' U H' st' → WD K M' U (z σ env) H' J xs → R J H'
abbrev SemI (K : PySem.W.Frag) (g : Ev → Sto → Option (List D × Sto)) : TI := SemIZ OwV K g
section
variable {K : PySem.W.Frag} {M M' : List Addr} {U U' Z : Addr → Prop} {H H' : Hp} {st : Sto}
theorem Lat.keep (l : Lat M U Z H M' U' H') : Keep (Bar M U) (Bar M' U') H H' := fun a o n e => by
  obtain ⟨l1, l2, l3, W0, w1, w2, w3⟩ := l
  have nm : a ∉ M := fun z => n (.inl z)
  have nu : ¬ U a := fun z => n (.inr z)
  refine ⟨w3 a o nm (fun z => nu (w1 a z)) e, fun z => ?_⟩
  rcases z with z | z
  · rcases l1 a z with q | q
    · exact nm q
    · rw [q] at e; cases e
  · rcases l2 a z with q | q
    · exact nu q
    · rw [q] at e; cases e
theorem RpU.listL (so : StoOk K M U H st) {v : V} {xs : List D} (r : RpU K M U Z H v (.list xs)) : ∃ a vs, v = .ref a ∧ SqL K H a vs ∧ RpAll K (Bar M U) H vs xs ∧ ∀ M' U' H', Lat M U Z H M' U' H' → SqL K H' a vs := by
  rcases r with r | ⟨a, rfl, ⟨u, z⟩, vs, e, r⟩
  · cases r with
    | lst h r => exact ⟨_, _, rfl, h.sq, r, fun M' U' H' l => (h.keep l.keep).sq⟩
  · refine ⟨a, vs, rfl, .inl (.inl e), r, fun M' U' H' l => ?_⟩
    obtain ⟨l1, l2, l3, W0, w1, w2, w3⟩ := l
    exact .inl (.inl (w3 a _ (fun q => so.ap a q u) (w2 a z) e))
theorem RpU.tupL {v : V} {xs : List D} (r : RpU K M U Z H v (.tuple xs)) : ∃ a vs, v = .ref a ∧ SqT K H a vs ∧ RpAll K (Bar M U) H vs xs ∧ ∀ M' U' H', Lat M U Z H M' U' H' → SqT K H' a vs := by
  rcases r with r | ⟨a, rfl, ⟨u, z⟩, h⟩
  · cases r with
    | tup h r => exact ⟨_, _, rfl, h.sq, r, fun M' U' H' l => (h.keep l.keep).sq⟩
  · exact h.elim
/-- a walk that leaves the heap, over values that stand for the items -/
theorem WD.at {J : L2.It} {vs : List V} {xs : List D} {G : Hp → Prop} (w : Walk J vs.length G (YAt vs)) (r : RpAll K (Bar M U) H vs xs) (g : ∀ M' U' H', Lat M U Z H M' U' H' → G H') : WD K M U Z H J xs where
  go := fun M' U' H' i l hi => w.goes i H' (by rw [r.length]; exact hi) (g _ _ _ l)
  stop := fun M' U' H' l => by rw [← r.length]; exact w.stops H' (g _ _ _ l)
  yld := fun M' U' H1 i x H2 l hi y => by
    obtain ⟨rfl, e⟩ := w.yields i H1 x H2 (by rw [r.length]; exact hi) (g _ _ _ l) y
    obtain ⟨d, e2, rd⟩ := r.getV e
    exact ⟨d, e2, fun _ _ h => h, rd.keep l.keep⟩
theorem WD.fn {J : L2.It} {n : Nat} {F : Nat → V} {xs : List D} {G : Hp → Prop} (w : Walk J n G (YFn F)) (hn : xs.length = n) (r : ∀ B H i, i < n → ∃ d, xs[i]? = some d ∧ Rp K B H (F i) d) (g : ∀ H', G H') : WD K M U Z H J xs where
  go := fun M' U' H' i l hi => w.goes i H' (by omega) (g _)
  stop := fun M' U' H' l => by rw [hn]; exact w.stops H' (g _)
  yld := fun M' U' H1 i x H2 l hi y => by
    obtain ⟨rfl, rfl⟩ := w.yields i H1 x H2 (by omega) (g _) y
    obtain ⟨d, e2, rd⟩ := r (Bar M' U') H2 i (by omega)
    exact ⟨d, e2, fun _ _ h => h, rd⟩
theorem WD.pair {J : L2.It} {n : Nat} {p q : Nat → Option V} {xs : List D} {G : Hp → Prop} (w : Walk J n G (Pk.YPairK p q)) (hn : xs.length = n)
    (r : ∀ i x y, i < n → p i = some x → q i = some y → ∃ c d, xs[i]? = some (.tuple [c, d]) ∧ Rp K (Bar M U) H x c ∧ Rp K (Bar M U) H y d) (g : ∀ M' U' H', Lat M U Z H M' U' H' → G H') : WD K M U Z H J xs where
  go := fun M' U' H' i l hi => w.goes i H' (by omega) (g _ _ _ l)
  stop := fun M' U' H' l => by rw [hn]; exact w.stops H' (g _ _ _ l)
  yld := fun M' U' H1 i x H2 l hi y => by
    obtain ⟨T, a, b, o, rfl, nT, ho, rfl, e1, e2⟩ := w.yields i H1 x H2 (by omega) (g _ _ _ l) y
    obtain ⟨c, d, e3, ra, rb⟩ := r i a b (by omega) e1 e2
    obtain ⟨_, _, tr, _⟩ := id l
    have kp := keepN (o := .frz o (.tup [a, b])) tr nT
    exact ⟨_, e3, growN nT, .tup ⟨notB tr nT, .inl ⟨o, ho, upd_same⟩⟩ (.cons ((ra.keep l.keep).keep kp) (.cons ((rb.keep l.keep).keep kp) .nil))⟩
end
theorem enumD_at : ∀ (xs : List D) (k i : Nat), (enumD k xs)[i]? = (xs[i]?).map fun x => .tuple [.int ((k + i : Nat) : Int), x]
  | [], k, i => by simp [enumD]
  | x :: xs, k, 0 => by simp [enumD]
  | x :: xs, k, i + 1 => by
    show (enumD (k + 1) xs)[i]? = _
    rw [enumD_at xs (k + 1) i, show k + 1 + i = k + (i + 1) by omega]
    simp
theorem enumD_len : ∀ (xs : List D) (k : Nat), (enumD k xs).length = xs.length
  | [], _ => rfl
  | _ :: xs, k => congrArg (· + 1) (enumD_len xs (k + 1))
theorem zipD_at : ∀ (xs ys : List D) (i : Nat) (x y : D), xs[i]? = some x → ys[i]? = some y → (zipD xs ys)[i]? = some (.tuple [x, y])
  | [], _, _, _, _, h, _ => by simp at h
  | _ :: _, [], _, _, _, _, h => by simp at h
  | a :: xs, b :: ys, 0, x, y, h, h' => by simp at h h'; subst h; subst h'; rfl
  | a :: xs, b :: ys, i + 1, x, y, h, h' => zipD_at xs ys i x y (by simpa using h) (by simpa using h')
theorem zipD_len : ∀ (xs ys : List D), (zipD xs ys).length = min xs.length ys.length
  | [], ys => by simp [zipD]
  | _ :: _, [] => by simp [zipD]
  | _ :: xs, _ :: ys => by simp [zipD, zipD_len xs ys]
open Pk in
theorem walk_zipG {K : PySem.W.Frag} {p q : Bool} {a b : Addr} {xs ys : List V} {n : Nat} (hn : n = min xs.length ys.length) : Walk (ItzG K p q a b) n (fun H => SqG K p H a xs ∧ SqG K q H b ys) (Pk.YPairK (fun i => xs[i]?) (fun i => ys[i]?)) := by
  subst hn
  refine ⟨fun i _ hi z => ?_, fun _ z => ⟨xs, ys, z.1, z.2, rfl⟩, fun i H v H' _ z y => ?_⟩
  · have h1 : i < xs.length := by omega
    have h2 : i < ys.length := by omega
    exact ⟨xs, ys, xs[i], ys[i], z.1, z.2, by simp [h1], by simp [h2]⟩
  · obtain ⟨T, x, w, o, h1, h2, h0, h3, h4, h5⟩ := y
    exact ⟨T, x, w, o, h1, h2, h0, h3, h4 xs z.1, h5 ys z.2⟩
open Pk in
theorem walk_enumG {K : PySem.W.Frag} {p : Bool} {a : Addr} {xs : List V} : Walk (IteG K p a) xs.length (fun H => SqG K p H a xs) (Pk.YPairK (fun i => some (.int (i : Nat))) (fun i => xs[i]?)) := by
  refine ⟨fun i _ hi z => ⟨xs, xs[i], z, by simp [hi]⟩, fun _ z => ⟨xs, z, rfl⟩, fun i H v H' _ z y => ?_⟩
  obtain ⟨T, x, o, h1, h2, h0, h3, h4⟩ := y
  exact ⟨T, .int (i : Nat), x, o, h1, h2, h0, h3, rfl, h4 xs z⟩
theorem RpU.seqL {K : PySem.W.Frag} {M : List Addr} {U Z : Addr → Prop} {H : Hp} {st : Sto} (so : StoOk K M U H st) {v : V} {x : D} {xs : List D} (r : RpU K M U Z H v x) (e : items x = some xs) :
    ∃ p a vs, v = .ref a ∧ Pk.SqG K p H a vs ∧ RpAll K (Bar M U) H vs xs ∧ ∀ M' U' H', Lat M U Z H M' U' H' → Pk.SqG K p H' a vs := by
  cases x with
  | list ys =>
    cases e
    obtain ⟨a, vs, h1, h2, h3, h4⟩ := r.listL so
    exact ⟨false, a, vs, h1, h2, h3, h4⟩
  | tuple ys =>
    cases e
    obtain ⟨a, vs, h1, h2, h3, h4⟩ := r.tupL
    exact ⟨true, a, vs, h1, h2, h3, h4⟩
  | _ => cases e
section
variable {X : Cx} {x y tg : Expr} {pos : Pos} {f g h : Ev → Sto → Option (D × Sto)} {z : L2.St → Ev → Addr → Prop}
theorem piImp {t t' : TI} (hp : PI X tg x t) (f : ∀ σ H Q, t' σ H Q → t σ H Q) : PI X tg x t' := ⟨fun pins s σ H Q I q => hp.run pins s σ H Q I (f σ H Q q)⟩
theorem piOr {t t' : TI} (hp : PI X tg x t) (hq : PI X tg x t') : PI X tg x (fun σ H R => t σ H R ∨ t' σ H R) := ⟨fun pins s σ H Q I q => q.elim (hp.run pins s σ H Q I) (hq.run pins s σ H Q I)⟩
theorem si_of (hx : PE X x (SemBZ z X.K f)) : PI X tg x (SemIZ z X.K fun env st => bnd (f env st) fun x s => ret (walkD x) s) :=
  piImp (piOr (pi_list hx) (piOr (pi_tup hx) (pi_str hx))) fun σ H R ⟨M, U, st, env, xs, s, er, ex, q⟩ => by
    obtain ⟨u, s1, e1, ex⟩ := bnd_eq ex
    obtain ⟨e2, rfl⟩ := ret_eq ex
    cases u with
    | list ds =>
      cases e2
      refine .inl ⟨M, U, st, env, _, _, er, e1, fun v H1 M1 p1 so1 r1 => ?_⟩
      obtain ⟨a, vs, rfl, ha, ra, la⟩ := r1.listL so1
      exact ⟨a, rfl, ⟨vs, ha⟩, q _ H1 M1 p1 so1 (WD.at walk_list ra la)⟩
    | tuple ds =>
      cases e2
      refine .inr (.inl ⟨M, U, st, env, _, _, er, e1, fun v H1 M1 p1 so1 r1 => ?_⟩)
      obtain ⟨a, vs, rfl, ha, ra, la⟩ := r1.tupL
      exact ⟨a, rfl, ⟨vs, ha⟩, q _ H1 M1 p1 so1 (WD.at walk_tup ra la)⟩
    | str zz =>
      cases e2
      refine .inr (.inr ⟨M, U, st, env, _, _, er, e1, fun v H1 M1 p1 so1 r1 => ?_⟩)
      cases r1.w.str
      refine ⟨zz, rfl, q _ H1 M1 p1 so1 ?_⟩
      refine WD.fn (n := zz.cps.size) (G := fun _ => True) (F := fun i => .str ⟨#[zz.cps.getD i 0]⟩) ⟨walk_str.goes, walk_str.stops, fun i H v H' hi g y => ?_⟩ (by simp) (fun B H i hi => ?_) fun _ => trivial
      · obtain ⟨e, c, e2, e3⟩ := walk_str.yields i H v H' hi g y
        refine ⟨e, ?_⟩
        rw [e3]
        simp [Array.getD_eq_getD_getElem?, e2]
      · refine ⟨.str ⟨#[zz.cps.getD i 0]⟩, ?_, .str _⟩
        simp [List.getElem?_map, Array.getElem?_toList, Array.getD_eq_getD_getElem?, Array.getElem?_eq_getElem hi]
    | none => cases e2
    | bool b => cases e2
    | int b => cases e2
    | dict b => cases e2
theorem rg2_vs {i j : Int} {xs : List D} (e : rg2D i j = some xs) : (-(2 ^ 62) ≤ i ∧ i < 2 ^ 62 ∧ -(2 ^ 62) ≤ j ∧ j < 2 ^ 62) ∧ xs = (List.range (j - i).toNat).map fun k => .int (i + (k : Nat)) := by
  obtain ⟨hz, e⟩ := dec2 (show (if decide (-(2 ^ 61) ≤ i ∧ i < 2 ^ 61 ∧ -(2 ^ 61) ≤ j ∧ j < 2 ^ 61) = true then some ((List.range (j - i).toNat).map fun k => PyData.int (i + (k : Nat))) else none) = some xs from e)
  obtain ⟨h1, h2, h3, h4⟩ := of_decide_eq_true hz
  exact ⟨by omega, e.symm⟩
theorem wd_range {K : PySem.W.Frag} {M : List Addr} {U Z : Addr → Prop} {H : Hp} {i j : Int} : WD K M U Z H (Itr i (j - i).toNat) ((List.range (j - i).toNat).map fun k => PyData.int (i + (k : Nat))) :=
  WD.fn walk_range (by rw [List.length_map, List.length_range]) (fun B H k hk => ⟨_, by rw [List.getElem?_map, List.getElem?_range hk]; rfl, .int _⟩) fun _ => trivial
theorem si_rng1 {p : Pos} (hg : Gl X "range") (hm : X.mg "range" = none) (n : nice x = true) (hx : PE X x (SemB X.K f)) :
    PI X tg (.Call (.Name "range" p) [x] [] pos) (SemIZ z X.K fun env st => bnd (f env st) fun x s => ret ((asInt x).bind fun n => rg2D 0 n) s) :=
  piImp (pi_range1 hg hm (pa_cons hx pa_nil (star1 n [] _)) (star1 n [] _)) fun σ H R ⟨M, U, st, env, xs, s, er, ex, q⟩ => by
    obtain ⟨u, s1, e1, ex⟩ := bnd_eq ex
    obtain ⟨e2, rfl⟩ := ret_eq ex
    obtain ⟨i, e3, e4⟩ := Option.bind_eq_some_iff.mp e2
    cases u with
    | int j =>
      cases e3
      obtain ⟨⟨_, _, h3, h4⟩, ex⟩ := rg2_vs e4
      subst ex
      refine ⟨M, U, st, env, _, _, er, e1, fun v H1 M1 p1 so1 r1 => ?_⟩
      cases r1.w.int
      refine ⟨_, rfl, h3, h4, ?_⟩
      have w := wd_range (K := X.K) (M := M1) (U := U) (Z := z σ env) (H := H1) (i := 0) (j := i)
      have := q _ H1 M1 p1 so1 w
      rw [Int.sub_zero] at this
      exact this
    | none => cases e3
    | bool b => cases e3
    | str b => cases e3
    | list b => cases e3
    | tuple b => cases e3
    | dict b => cases e3
theorem si_rng2 {p : Pos} (hg : Gl X "range") (hm : X.mg "range" = none) (nx : nice x = true) (ny : nice y = true) (hx : PE X x (SemB X.K f)) (hy : PE X y (SemB X.K g)) :
    PI X tg (.Call (.Name "range" p) [x, y] [] pos) (SemIZ z X.K fun env st => bnd (f env st) fun x s => bnd (g env s) fun y s' => ret ((asInt x).bind fun i => (asInt y).bind fun j => rg2D i j) s') := by
  have s2 := star1 ny [] X.env
  have s1 := star1 nx [y] X.env
  refine piImp (pi_range2 hg hm (pa_cons hx (pa_cons hy pa_nil s2) s1) (by rw [s1, s2]; rfl) s2) fun σ H R ⟨M, U, st, env, xs, s, er, ex, q⟩ => ?_
  obtain ⟨u, s1, e1, ex⟩ := bnd_eq ex
  obtain ⟨v, s2, e2, ex⟩ := bnd_eq ex
  obtain ⟨e3, rfl⟩ := ret_eq ex
  obtain ⟨i, e4, e5⟩ := Option.bind_eq_some_iff.mp e3
  obtain ⟨j, e6, e7⟩ := Option.bind_eq_some_iff.mp e5
  cases u <;> first | (cases e4; done) | skip
  cases v <;> first | (cases e6; done) | skip
  cases e4
  cases e6
  obtain ⟨hb, rfl⟩ := rg2_vs e7
  refine ⟨M, U, st, env, _, _, er, e1, fun v H1 M1 p1 so1 r1 => ⟨M1, U, _, env, _, _, er.step p1 so1, e2, fun v2 H2 M2 p2 so2 r2 => ?_⟩⟩
  cases r1.w.int
  cases r2.w.int
  exact ⟨i, j, rfl, hb, q _ H2 M2 (p1.trans p2) so2 wd_range⟩
theorem wd_rangeC {K : PySem.W.Frag} {M : List Addr} {U Z : Addr → Prop} {H : Hp} {i c : Int} {n : Nat} : WD K M U Z H (Itc i c n) ((List.range n).map fun k => PyData.int (i + (k : Nat) * c)) :=
  WD.fn walk_rangeC (by rw [List.length_map, List.length_range]) (fun B H k hk => ⟨_, by rw [List.getElem?_map, List.getElem?_range hk]; rfl, .int _⟩) fun _ => trivial
theorem si_rng3 {w : Expr} {g2 : Ev → Sto → Option (D × Sto)} {p : Pos} (hg : Gl X "range") (hm : X.mg "range" = none) (nx : nice x = true) (ny : nice y = true) (nw : nice w = true) (hx : PE X x (SemB X.K f)) (hy : PE X y (SemB X.K g)) (hw : PE X w (SemB X.K g2)) :
    PI X tg (.Call (.Name "range" p) [x, y, w] [] pos) (SemIZ z X.K fun env st => bnd (f env st) fun x s => bnd (g env s) fun y s' => bnd (g2 env s') fun z s2 => ret ((asInt x).bind fun i => (asInt y).bind fun j => (asInt z).bind fun k => rgC i j k) s2) := by
  have s3 := star1 nw [] X.env
  have s2 := star1 ny [w] X.env
  have s1 := star1 nx [y, w] X.env
  refine piImp (pi_range3 hg hm (pa_cons hx (pa_cons hy (pa_cons hw pa_nil s3) s2) s1) s1 (by rw [s2, s3]; rfl)) fun σ H R ⟨M, U, st, env, xs, s, er, ex, q⟩ => ?_
  obtain ⟨u, s1, e1, ex⟩ := bnd_eq ex
  obtain ⟨v, s2, e2, ex⟩ := bnd_eq ex
  obtain ⟨v3, s3, e8, ex⟩ := bnd_eq ex
  obtain ⟨e3, rfl⟩ := ret_eq ex
  obtain ⟨i, e4, e5⟩ := Option.bind_eq_some_iff.mp e3
  obtain ⟨j, e6, e7⟩ := Option.bind_eq_some_iff.mp e5
  obtain ⟨k, e9, e10⟩ := Option.bind_eq_some_iff.mp e7
  cases u <;> first | (cases e4; done) | skip
  cases v <;> first | (cases e6; done) | skip
  cases v3 <;> first | (cases e9; done) | skip
  cases e4
  cases e6
  cases e9
  obtain ⟨hb, rfl⟩ := dec2 (show (if decide (k ≠ 0 ∧ k.natAbs < 1073741824 ∧ Builtin.Range.small i j k = true ∧ 0 ≤ Builtin.Range.rangeSize i j k) = true then some ((List.range (Builtin.Range.rangeSize i j k).toNat).map fun n => PyData.int (i + (n : Nat) * k)) else none) = some xs from e10)
  obtain ⟨c0, c1, c2, c3⟩ := of_decide_eq_true hb
  refine ⟨M, U, st, env, _, _, er, e1, fun v H1 M1 p1 so1 r1 => ⟨M1, U, _, env, _, _, er.step p1 so1, e2, fun v2 H2 M2 p2 so2 r2 => ⟨M2, U, _, env, _, _, (er.step p1 so1).step p2 so2, e8, fun v3 H3 M3 p3 so3 r3 => ?_⟩⟩⟩
  cases r1.w.int
  cases r2.w.int
  cases r3.w.int
  exact ⟨i, j, k, (Builtin.Range.rangeSize i j k).toNat, rfl, ⟨c0, c1, c2, (Int.toNat_of_nonneg c3).symm⟩, q _ H3 M3 ((p1.trans p2).trans p3) so3 wd_rangeC⟩
theorem si_enm {p tpos : Pos} {elts : List Expr} {kk : Nat} (hg : Gl X "enumerate") (hm : X.mg "enumerate" = none) (n : nice x = true) (hx : PE X x (SemBZ z X.K f)) :
    PI X (.Tuple elts kk tpos) (.Call (.Name "enumerate" p) [x] [] pos) (SemIZ z X.K fun env st => bnd (f env st) fun x s => ret ((items x).map (enumD 0)) s) :=
  piImp (Pk.pi_enumG hg hm (pa_cons hx pa_nil (star1 n [] _)) (star1 n [] _)) fun σ H R ⟨M, U, st, env, xs, s, er, ex, q⟩ => by
    obtain ⟨u, s1, e1, ex⟩ := bnd_eq ex
    obtain ⟨e2, rfl⟩ := ret_eq ex
    obtain ⟨ds, e3, rfl⟩ := Option.map_eq_some_iff.mp e2
    refine ⟨M, U, st, env, _, _, er, e1, fun v H1 M1 p1 so1 r1 => ?_⟩
    obtain ⟨w, a, vs, rfl, ha, ra, la⟩ := r1.seqL so1 e3
    refine ⟨w, a, vs, rfl, ha, q _ H1 M1 p1 so1 (WD.pair walk_enumG (by rw [enumD_len, ra.length]) (fun i c d hi e3 e4 => ?_) la)⟩
    cases e3
    obtain ⟨t, e5, rt⟩ := ra.getV e4
    refine ⟨.int (i : Nat), t, ?_, .int _, rt⟩
    rw [enumD_at, e5, Nat.zero_add]
    rfl
theorem si_zip {p tpos : Pos} {elts : List Expr} {kk : Nat} (hg : Gl X "zip") (hm : X.mg "zip" = none) (nx : nice x = true) (ny : nice y = true) (hx : PE X x (SemBZ z X.K f)) (hy : PE X y (SemBZ z X.K g)) :
    PI X (.Tuple elts kk tpos) (.Call (.Name "zip" p) [x, y] [] pos) (SemIZ z X.K fun env st => bnd (f env st) fun x s => bnd (g env s) fun y s' => ret ((items x).bind fun xs => (items y).map fun ys => zipD xs ys) s') := by
  have s2 := star1 ny [] X.env
  have s1 := star1 nx [y] X.env
  refine piImp (Pk.pi_zipG hg hm (pa_cons hx (pa_cons hy pa_nil s2) s1) s1 (by rw [s2]; rfl)) fun σ H R ⟨M, U, st, env, xs, s, er, ex, q⟩ => ?_
  obtain ⟨u, s1, e1, ex⟩ := bnd_eq ex
  obtain ⟨v, s2, e2, ex⟩ := bnd_eq ex
  obtain ⟨e3, rfl⟩ := ret_eq ex
  obtain ⟨ds, e4, e3⟩ := Option.bind_eq_some_iff.mp e3
  obtain ⟨es, e5, rfl⟩ := Option.map_eq_some_iff.mp e3
  refine ⟨M, U, st, env, _, _, er, e1, fun v1 H1 M1 p1 so1 r1 => ⟨M1, U, _, env, _, _, er.step p1 so1, e2, fun v2 H2 M2 p2 so2 r2 => ?_⟩⟩
  have r1 := r1.step p2 so1.ap
  obtain ⟨w, a, vs, rfl, ha, ra, la⟩ := r1.seqL so2 e4
  obtain ⟨w2, b, us, rfl, hb, rb, lb⟩ := r2.seqL so2 e5
  refine ⟨w, w2, a, b, vs, us, rfl, ha, hb, q _ H2 M2 (p1.trans p2) so2 (WD.pair (walk_zipG rfl) (by rw [zipD_len, ra.length, rb.length]) (fun i c d hi e6 e7 => ?_) fun M' U' H' l => ⟨la _ _ _ l, lb _ _ _ l⟩)⟩
  obtain ⟨t, e8, rt⟩ := ra.getV e6
  obtain ⟨t2, e9, rt2⟩ := rb.getV e7
  exact ⟨t, t2, zipD_at _ _ _ _ _ e8 e9, rt, rt2⟩
/-! ### dict(zip(x, y)) -/
theorem once_keys {K : PySem.W.Frag} {B : Addr → Prop} {H : Hp} : ∀ {xs : List D} {vs : List V}, RpAll K B H vs xs → onceD xs = true → ∃ ks : List Key, vs = ks.map kV ∧ xs = ks.map kD ∧ ks.Nodup
  | [], _, .nil, _ => ⟨[], rfl, rfl, List.nodup_nil⟩
  | x :: xs, _, .cons (v := v) r rr, h => by
    have h : (keyD x && !(xs.any fun y => keyEq y x) && onceD xs) = true := h
    rw [Bool.and_eq_true, Bool.and_eq_true] at h
    obtain ⟨⟨h1, h2⟩, h3⟩ := h
    obtain ⟨ks, rfl, rfl, nd⟩ := once_keys rr h3
    obtain ⟨k, rfl⟩ := of_keyD h1
    have ev : v = kV k := by
      rcases k with i | z
      · exact RpW.int (.inl r)
      · exact RpW.str (.inl r)
    subst ev
    refine ⟨k :: ks, rfl, rfl, List.nodup_cons.mpr ⟨fun hm => ?_, nd⟩⟩
    have : ((ks.map kD).any fun y => keyEq y (kD k)) = true := List.any_eq_true.mpr ⟨kD k, List.mem_map_of_mem hm, by rw [keyEq_kD]; exact decide_eq_true rfl⟩
    rw [this] at h2
    cases h2
theorem kv_rp {K : PySem.W.Frag} {B : Addr → Prop} {H : Hp} : ∀ (ks : List Key) {us : List V} {es : List D}, RpAll K B H us es → RpKv K B H (ks.zip us) (kvD (ks.map kD) es)
  | [], _, _, _ => by rw [List.zip_nil_left]; exact .nil
  | _ :: _, _, _, .nil => by rw [List.zip_nil_right]; exact .nil
  | k :: ks, _, _, .cons r rr => .cons r (kv_rp ks rr)
theorem se_dzip {p p2 pos2 : Pos} (hc : X.calm = true) (hg : Gl X "dict") (hm : X.mg "dict" = none) (hg2 : Gl X "zip") (hm2 : X.mg "zip" = none) (nx : nice x = true) (ny : nice y = true) (hx : PE X x (SemB X.K f)) (hy : PE X y (SemB X.K g)) :
    PE X (.Call (.Name "dict" p) [.Call (.Name "zip" p2) [x, y] [] pos2] [] pos) (SemE X.K fun env st => bnd (f env st) fun u s => bnd (g env s) fun v s' => ret (dzipD u v) s') := by
  have s2 := star1 ny [] X.env
  have s1 := star1 nx [y] X.env
  refine peImp (Pk.pe_dzip hc hg hm hg2 hm2 (pa_cons hx (pa_cons hy pa_nil s2) s1) s1 (by rw [s2]; rfl)) fun σ H Q ⟨M, U, st, env, w, s, er, ex, q⟩ => ?_
  obtain ⟨u, s1, e1, ex⟩ := bnd_eq ex
  obtain ⟨v, s2, e2, ex⟩ := bnd_eq ex
  obtain ⟨e3, rfl⟩ := ret_eq ex
  obtain ⟨ds, e4, e3⟩ := Option.bind_eq_some_iff.mp e3
  obtain ⟨es, e5, e3⟩ := Option.bind_eq_some_iff.mp e3
  obtain ⟨ho, rfl⟩ := dec2 e3
  refine ⟨M, U, st, env, _, _, er, e1, fun v1 H1 M1 p1 so1 r1 => ⟨M1, U, _, env, _, _, er.step p1 so1, e2, fun v2 H2 M2 p2 so2 r2 => ?_⟩⟩
  have r1 := r1.step p2 so1.ap
  obtain ⟨w1, a, vs, rfl, ha, ra, la⟩ := r1.seqL so2 e4
  obtain ⟨w2, b, us, rfl, hb, rb, lb⟩ := r2.seqL so2 e5
  obtain ⟨ks, rfl, rfl, nd⟩ := once_keys ra ho
  refine ⟨w1, w2, a, b, ks, us, rfl, ha, hb, nd, fun c hcn => ?_⟩
  exact EPost.op q (p1.trans p2) so2 (fun n z => nomatch z) c _ (growN hcn) hcn (.inl ⟨_, upd_same, kv_rp ks rb⟩)
end
end Pi

end
section
set_option Elab.async false
set_option linter.all false
set_option maxRecDepth 100000
set_option maxHeartbeats 1000000
namespace Pi
open PySem PySem.Spec PyProof.Rows L2
/-! ### targets -/
mutual
def tgR (K : PySem.W.Frag) : Tg → TG
  | .n i => gName i
  | .t ts => fun v σ H Q => gTup K (tgLen ts) (tgsR K ts) v σ H Q ∨ gLst K (tgLen ts) (tgsR K ts) v σ H Q
def tgsR (K : PySem.W.Frag) : Tgs → TGs
  | .nil => gNil
  | .cons t ts => gCons (tgR K t) (tgsR K ts)
def tgLen : Tgs → Nat
  | .nil => 0
  | .cons _ ts => tgLen ts + 1
end
mutual
def slots : Tg → List Nat
  | .n i => [i]
  | .t ts => slotss ts
def slotss : Tgs → List Nat
  | .nil => []
  | .cons t ts => slots t ++ slotss ts
end
mutual
inductive TgX (N : List Str) (P : Str → Prop) : Tg → Expr → Prop
  | n {i : Nat} {x : Str} {pos : Pos} : N[i]? = some x → P x → TgX N P (.n i) (.Name x pos)
  | t {ts : Tgs} {es : List Expr} {k : Nat} {pos : Pos} : TgsX N P ts es → TgX N P (.t ts) (.Tuple es k pos)
inductive TgsX (N : List Str) (P : Str → Prop) : Tgs → List Expr → Prop
  | nil : TgsX N P .nil []
  | cons {t : Tg} {ts : Tgs} {e : Expr} {es : List Expr} : TgX N P t e → TgsX N P ts es → TgsX N P (.cons t ts) (e :: es)
end
/-- a name that may be stored -/
def StN (X : Cx) (x : Str) : Prop := Loc X.env.scope x ∧ (X.fn x = true ∨ X.env.scope.names.lookup x = some .local)
section
variable {X : Cx}
theorem tg_each {P : Str → Prop} {t : Tg} {e : Expr} (h : TgX X.N P t e) (es : List Expr) (env : Env) : assignEach (e :: es) env = (false, assign e env) :: assignEach es env := by
  cases h with
  | n _ _ => rfl
  | t _ => rfl
theorem tgs_each {P : Str → Prop} : ∀ {ts : Tgs} {es : List Expr}, TgsX X.N P ts es → ∀ env : Env, (assignEach es env).length = tgLen ts ∧ (assignEach es env).findIdx? (·.1) = none
  | _, _, .nil, env => ⟨rfl, rfl⟩
  | _, _, .cons h r, env => by
    obtain ⟨h1, h2⟩ := tgs_each r env
    rw [tg_each h]
    refine ⟨congrArg (· + 1) h1, ?_⟩
    rw [List.findIdx?_cons]
    simp [h2]
mutual
theorem pg_T (hc : X.calm = true) (hN : X.N.Nodup) : ∀ {t : Tg} {e : Expr}, TgX X.N (StN X) t e → PG X e (tgR X.K t)
  | _, _, .n h p => pg_name hN h p.1 p.2
  | _, _, .t h => ⟨fun pins s σ H v u Q I r q => q.elim ((pg_tup hc (pgs_T hc hN h) (tgs_each h X.env).1 (tgs_each h X.env).2).run pins s σ H v u Q I r) ((pg_lst hc (pgs_T hc hN h) (tgs_each h X.env).1 (tgs_each h X.env).2).run pins s σ H v u Q I r)⟩
theorem pgs_T (hc : X.calm = true) (hN : X.N.Nodup) : ∀ {t : Tgs} {e : List Expr}, TgsX X.N (StN X) t e → PGs X e (tgsR X.K t)
  | _, _, .nil => pgs_nil
  | _, _, .cons h r => pgs_cons (pg_T hc hN h) (pgs_T hc hN r) (by rw [tg_each h]; rfl)
end
end
theorem look_set (env : Ev) (i j : Nat) (s : Slot) (h : i < env.length) : look (env.set i s) j = if j = i then s else look env j := by
  unfold look
  rw [List.getD_eq_getElem?_getD, List.getD_eq_getElem?_getD, List.getElem?_set]
  by_cases e : i = j
  · subst e; simp [h]
  · simp [e, Ne.symm e]
theorem join_set (σ : L2.St) (i j : Nat) (v : V) (h : i < σ.length) : ((σ.set i (some v))[j]?).join = if j = i then some v else (σ[j]?).join := by
  rw [List.getElem?_set]
  by_cases e : i = j
  · subst e; simp [h]
  · simp [e, Ne.symm e]
section
variable {K : PySem.W.Frag} {M : List Addr} {U : Addr → Prop} {H : Hp} {st : Sto}
theorem ER.sh {σ : L2.St} {env : Ev} (er : ER K M U H st σ env) {i : Nat} {v : V} {x : D} (h : i < env.length) (r : Rp K (Bar M U) H v x) : ER K M U H st (σ.set i (some v)) (env.set i (.sh x)) :=
  ⟨er.sto, by rw [List.length_set, List.length_set]; exact er.len, fun j => by
    rw [look_set env i j _ h, join_set σ i j v (by rw [← er.len]; exact h)]
    by_cases e : j = i
    · rw [if_pos e, if_pos e]; exact ⟨v, rfl, r⟩
    · rw [if_neg e, if_neg e]; exact er.env j⟩
mutual
theorem bind_ok : ∀ (t : Tg) {x : D} {v : V} {σ : L2.St} {env env' : Ev} {Q : L2.St → Hp → Prop}, ER K M U H st σ env → Rp K (Bar M U) H v x → bindT t x env = some env' →
    (∀ σ', ER K M U H st σ' env' → σ'.length = σ.length → (∀ i, i ∉ slots t → σ'[i]? = σ[i]?) → Q σ' H) → tgR K t v σ H Q
  | .n i, x, v, σ, env, env', Q, er, r, e, q => by
    obtain ⟨h, e⟩ := dec2 (show (if i < env.length then some (env.set i (.sh x)) else none) = some env' from e)
    subst e
    refine q _ (er.sh h r) (by rw [List.length_set]) fun j hj => ?_
    rw [List.getElem?_set_ne]
    intro z
    exact hj (by rw [z]; exact List.mem_singleton.mpr rfl)
  | .t ts, x, v, σ, env, env', Q, er, r, e, q => by
    cases x with
    | tuple xs =>
      cases r with
      | tup h r =>
        obtain ⟨hl, q'⟩ := binds_ok ts er r e q
        exact .inl ⟨_, _, rfl, h.sq, hl, q'⟩
    | list xs =>
      cases r with
      | lst h r =>
        obtain ⟨hl, q'⟩ := binds_ok ts er r e q
        exact .inr ⟨_, _, rfl, h.sq, hl, q'⟩
    | none => cases e
    | bool b => cases e
    | int b => cases e
    | str b => cases e
    | dict b => cases e
theorem binds_ok : ∀ (ts : Tgs) {xs : List D} {vs : List V} {σ : L2.St} {env env' : Ev} {Q : L2.St → Hp → Prop}, ER K M U H st σ env → RpAll K (Bar M U) H vs xs → bindTs ts xs env = some env' →
    (∀ σ', ER K M U H st σ' env' → σ'.length = σ.length → (∀ i, i ∉ slotss ts → σ'[i]? = σ[i]?) → Q σ' H) → vs.length = tgLen ts ∧ tgsR K ts vs σ H Q
  | .nil, xs, vs, σ, env, env', Q, er, r, e, q => by
    cases r with
    | nil => cases e; exact ⟨rfl, rfl, q σ er rfl fun _ _ => rfl⟩
    | cons h r => cases e
  | .cons t ts, xs, vs, σ, env, env', Q, er, r, e, q => by
    cases r with
    | nil => cases e
    | @cons v vs x xs h r =>
      obtain ⟨e1, e2, e3⟩ := Option.bind_eq_some_iff.mp (show (bindT t x env).bind (fun env' => bindTs ts xs env') = some env' from e)
      have len : vs.length = tgLen ts := by
        have := (bindTs_len ts e3)
        rw [r.length, this]
      refine ⟨congrArg (· + 1) len, v, vs, rfl, bind_ok t er h e2 fun σ1 er1 l1 s1 => ?_⟩
      exact (binds_ok ts er1 r e3 fun σ2 er2 l2 s2 => q σ2 er2 (l2.trans l1) fun i hi => by
        rw [s2 i fun z => hi (List.mem_append_right _ z), s1 i fun z => hi (List.mem_append_left _ z)]).2
theorem bindTs_len : ∀ (ts : Tgs) {xs : List D} {env env' : Ev}, bindTs ts xs env = some env' → xs.length = tgLen ts
  | .nil, xs, env, env', e => by
    cases xs with
    | nil => rfl
    | cons a b => cases e
  | .cons t ts, xs, env, env', e => by
    cases xs with
    | nil => cases e
    | cons x xs =>
      obtain ⟨e1, e2, e3⟩ := Option.bind_eq_some_iff.mp (show (bindT t x env).bind (fun env' => bindTs ts xs env') = some env' from e)
      exact congrArg (· + 1) (bindTs_len ts e3)
end
/-! ### wiping -/
theorem look_wipe (env : Ev) (i : Nat) : ∀ vs : List Nat, look (wipeE env vs) i = if i ∈ vs then .no else look env i
  | [] => by simp [wipeE]
  | v :: vs => by
    have ih := look_wipe env i vs
    unfold wipeE
    unfold look at ih ⊢
    rw [List.getD_eq_getElem?_getD, List.getElem?_set]
    by_cases e : v = i
    · subst e
      by_cases h : v < (wipeE env vs).length
      · simp [h]
      · simp [h]
    · rw [if_neg e]
      rw [List.getD_eq_getElem?_getD] at ih
      rw [ih]
      simp [Ne.symm e]
theorem wipeE_len (env : Ev) : ∀ vs : List Nat, (wipeE env vs).length = env.length
  | [] => rfl
  | v :: vs => by unfold wipeE; rw [List.length_set, wipeE_len env vs]
theorem wipe_at (σ : L2.St) (i : Nat) : ∀ vs : List Nat, (wipe σ vs)[i]? = if i ∈ vs then (if i < σ.length then some none else none) else σ[i]?
  | [] => by simp [wipe]
  | v :: vs => by
    have ih := wipe_at σ i vs
    unfold wipe
    rw [List.getElem?_set, wipe_length]
    by_cases e : v = i
    · subst e; simp
    · rw [if_neg e, ih]
      simp [Ne.symm e]
theorem wipe_eq {σ σ' : L2.St} {vs : List Nat} (hl : σ'.length = σ.length) (h : ∀ i, i ∉ vs → σ'[i]? = (wipe σ vs)[i]?) : wipe σ' vs = wipe σ vs := by
  apply List.ext_getElem?
  intro i
  rw [wipe_at σ' i vs]
  by_cases hi : i ∈ vs
  · rw [if_pos hi, wipe_at σ i vs, if_pos hi, hl]
  · rw [if_neg hi, h i hi]
theorem ER.wipe {σ : L2.St} {env : Ev} (er : ER K M U H st σ env) (vs : List Nat) : ER K M U H st (wipe σ vs) (wipeE env vs) :=
  ⟨er.sto, by rw [wipeE_len, wipe_length]; exact er.len, fun i => by
    rw [look_wipe]
    by_cases h : i ∈ vs
    · rw [if_pos h]; trivial
    · rw [if_neg h, wipe_at, if_neg h]; exact er.env i⟩
theorem StoOk.more {p : Addr} {o : HO} (so : StoOk K M U H st) (n : H p = none) : StoOk K M (fun b => U b ∨ b = p) (upd H p o) st := by
  have kp : Keep (Bar M U) (Bar M fun b => U b ∨ b = p) H (upd H p o) := fun b u nb e => ⟨growN n b u e, fun z => by
    rcases z with z | z | z
    · exact nb (.inl z)
    · exact nb (.inr z)
    · subst z; rw [n] at e; cases e⟩
  refine ⟨so.len, so.nd, fun b m z => ?_, fun k xs e => ?_, fun b z => ?_⟩
  · rcases z with z | z
    · exact so.ap b m z
    · subst z
      obtain ⟨o, e⟩ := so.tracked b (.inl m)
      rw [n] at e; cases e
  · obtain ⟨b, vs, h1, h2, h3⟩ := so.box k xs e
    exact ⟨b, vs, h1, growN n _ _ h2, h3.keep kp⟩
  · rcases z with z | z
    · obtain ⟨o, e⟩ := so.tr b z
      exact ⟨o, growN n _ _ e⟩
    · subst z; exact ⟨_, upd_same⟩
/-- what is barred is changed -/
theorem keepU {p : Addr} {o : HO} (u : U p) : Keep (Bar M U) (Bar M U) H (upd H p o) := fun b x nb e => ⟨by
  rw [upd_ne fun z => nb (.inr (by rw [z]; exact u))]; exact e, nb⟩
theorem StoOk.upd {p : Addr} {o : HO} (so : StoOk K M U H st) (u : U p) : StoOk K M U (upd H p o) st := by
  refine ⟨so.len, so.nd, so.ap, fun k xs e => ?_, fun b z => ?_⟩
  · obtain ⟨b, vs, h1, h2, h3⟩ := so.box k xs e
    refine ⟨b, vs, h1, ?_, h3.keep (keepU u)⟩
    rw [upd_ne fun z => so.ap b (List.mem_of_getElem? h1) (by rw [z]; exact u)]
    exact h2
  · by_cases e : b = p
    · subst e; exact ⟨_, upd_same⟩
    · obtain ⟨o, h⟩ := so.tr b z
      exact ⟨o, by rw [upd_ne e]; exact h⟩
theorem Stp.updNew {M' : List Addr} {H' : Hp} {p : Addr} {o : HO} (s : Stp M H M' H') (n : H p = none) : Stp M H M' (upd H' p o) :=
  ⟨s.pre, s.new, fun a u na e => by
    rw [upd_ne (ne_of_none e n)]
    exact s.fr a u na e⟩
end
section
variable {X : Cx}
theorem lc_im {vs : List Nat} {t : Tg} {gi : Ev → Sto → Option (List D × Sto)} {gc : Ev → Sto → Option (Bool × Sto)} {ge : Ev → Sto → Option (D × Sto)} (hs : ∀ i ∈ slots t, i ∈ vs) (σ : L2.St) (H : Hp) (Q : VK)
    (hh : SemE X.K (fun env st => bnd (gi env st) fun xs s => bnd (turns (bindT t) gc ge (wipeE env vs) xs [] s) fun ys s' => some (.fr (.list ys), s')) σ H Q) : tLc (SemI X.K gi) (tgR X.K t) (SemT X.K gc) (SemD X.K ge) vs σ H Q := by
  obtain ⟨M, U, st, env, w, st', er, ex, q⟩ := hh
  obtain ⟨xs, s, e1, ex⟩ := bnd_eq ex
  obtain ⟨ys, s', e2, ex⟩ := bnd_eq ex
  cases ex
  refine ⟨M, U, st, env, xs, s, er, e1, fun J H1 M1 p1 so1 wd => fun Dl nD => ?_⟩
  have nM : Dl ∉ M := fun z => by
    obtain ⟨o, e⟩ := so1.tracked Dl (Or.inl (p1.mem z))
    rw [nD] at e; cases e
  have nH : H Dl = none := p1.none_of nM nD
  -- what holds ahead of turn i
  let Pv : Nat → Hp → Prop := fun i H => ∃ M' si acc us, Stp M1 H1 M' H ∧ StoOk X.K M' (fun b => U b ∨ b = Dl) H si ∧ H Dl = some (.lst us) ∧ RpAll X.K (Bar M' fun b => U b ∨ b = Dl) H us acc ∧ turns (bindT t) gc ge (wipeE env vs) (xs.drop i) acc si = some (ys, st')
  refine ⟨fun i m H => m = xs.length - i ∧ i ≤ xs.length ∧ Pv i H, ⟨xs.length, by simp, Nat.zero_le _, M1, s, [], [], (Stp.grow (growN nD)), so1.more nD, upd_same, .nil, e2⟩, ?_⟩
  rintro i m H2 ⟨rfl, hi, M2, si, acc, us, p2, so2, eD, ra, et⟩
  have lat : Lat M1 U (OwV σ env) H1 M2 (fun b => U b ∨ b = Dl) H2 := ⟨p2.new, fun a z => z.elim .inl fun z => .inr (by rw [z]; exact nD), so2.tracked, fun _ => False, fun _ z => z.elim, fun _ _ z => z, fun a o n _ e => p2.fr a o n e⟩
  by_cases hlt : i < xs.length
  · refine .inr ⟨wd.go M2 _ H2 i lat hlt, Pv (i + 1), fun H' pv => ⟨xs.length - (i + 1), by omega, rfl, hlt, pv⟩, fun x H3 hy => ?_⟩
    obtain ⟨d, ed, gr, rx⟩ := wd.yld M2 _ H2 i x H3 lat hlt hy
    have edr : xs.drop i = d :: xs.drop (i + 1) := by
      rw [List.drop_eq_getElem_cons hlt]
      congr 1
      rw [List.getElem?_eq_getElem hlt] at ed
      exact Option.some.inj ed
    rw [edr] at et
    have so3 := so2.grow gr
    have p03 : Stp M H M2 H3 := (p1.trans p2).trans (Stp.grow gr)
    have er3 : ER X.K M2 (fun b => U b ∨ b = Dl) H3 si σ env := ⟨so3, er.len, fun j => slr_more p03 er.sto.ap er.sto.tr nH so3 (er.env j)⟩
    have hb : ∃ e1, bindT t d (wipeE env vs) = some e1 ∧ bnd (gc e1 si) (fun b s1 => if b then bnd (ge e1 s1) fun y s2 => if acc.length < SL then turns (bindT t) gc ge (wipeE env vs) (xs.drop (i + 1)) (acc ++ [y]) s2 else none else turns (bindT t) gc ge (wipeE env vs) (xs.drop (i + 1)) acc s1) = some (ys, st') := by
      unfold turns at et
      cases hbt : bindT t d (wipeE env vs) with
      | none => rw [hbt] at et; cases et
      | some e1 => rw [hbt] at et; exact ⟨e1, rfl, et⟩
    obtain ⟨en, eb, et⟩ := hb
    refine bind_ok t (er3.wipe vs) rx eb fun σ2 er4 hl ag => ⟨wipe_eq (by rw [hl, wipe_length]) fun j hj => ag j fun z => hj (hs j z), ?_⟩
    obtain ⟨b, s4, e4, et⟩ := bnd_eq et
    refine ⟨M2, _, si, en, b, s4, er4, e4, fun H5 M5 p5 so5 => ?_⟩
    have nD2 : Dl ∉ M2 := fun z => so2.ap Dl z (.inr rfl)
    have eD3 : H3 Dl = some (.lst us) := gr _ _ eD
    have eD5 : H5 Dl = some (.lst us) := p5.fr _ _ nD2 eD3
    have p35 : Stp M1 H1 M5 H5 := (p2.trans (Stp.grow gr)).trans p5
    have ra5 := (ra.step (Stp.grow gr)).step p5
    cases b with
    | false =>
      rw [if_neg Bool.false_ne_true] at et
      show if false = true then _ else Pv (i + 1) H5
      rw [if_neg Bool.false_ne_true]
      exact ⟨M5, s4, acc, us, p35, so5, eD5, ra5, et⟩
    | true =>
      rw [if_pos rfl] at et
      show if true = true then (SemD X.K ge σ2 H5 fun y H4 => ∃ acc, H4 Dl = some (HO.lst acc) ∧ acc.length < sizeLine ∧ Pv (i + 1) (L2.upd H4 Dl (HO.lst (acc ++ [y])))) else _
      rw [if_pos rfl]
      obtain ⟨y, s6, e6, et⟩ := bnd_eq et
      obtain ⟨hz, et⟩ : acc.length < SL ∧ turns (bindT t) gc ge (wipeE env vs) (xs.drop (i + 1)) (acc ++ [y]) s6 = some (ys, st') := by
        split at et
        · exact ⟨‹_›, et⟩
        · cases et
      refine ⟨M5, _, s4, en, y, s6, er4.step p5 so5, e6, fun v H6 M6 p6 so6 rv => ?_⟩
      have nD5 : Dl ∉ M5 := fun z => so5.ap Dl z (.inr rfl)
      have eD6 : H6 Dl = some (.lst us) := p6.fr _ _ nD5 eD5
      have hu : (fun b => U b ∨ b = Dl) Dl := .inr rfl
      refine ⟨us, eD6, Nat.lt_of_lt_of_le (by rw [ra5.length]; exact hz) (by decide), M6, s6, acc ++ [y], us ++ [v], (p35.trans p6).updNew nD, so6.upd hu, upd_same, ?_, et⟩
      exact ((ra5.step p6).append (.one rv)).keep (keepU hu)
  · have e : i = xs.length := by omega
    subst e
    refine .inl ⟨wd.stop M2 _ H2 lat, ?_⟩
    rw [List.drop_length] at et
    cases et
    exact q Dl H2 M2 (p1.trans p2) nH so2 ⟨us, eD, ra⟩
theorem se_lc {elt tg iter : Expr} {ifs : List Expr} {scope : Scope} {vs : List Nat} {own : List (Str × Nat)} {pos : Pos} {t : Tg} {gi : Ev → Sto → Option (List D × Sto)} {gc : Ev → Sto → Option (Bool × Sto)} {ge : Ev → Sto → Option (D × Sto)}
    (hc : X.calm = true) (hN : X.N.Nodup) (hi : PI X tg iter (SemI X.K gi)) (ok : BlkOk X.N X.env.scope scope own) (hvs : own.map (·.2) = vs) (hs : ∀ i ∈ slots t, i ∈ vs)
    (hg : ∀ (s : Shared) (H : Hp) (C : Addr) (cl : List (Str × Addr)) (fp : List Addr), PG (X.blk s H scope (compEnvC scope cl C X.env) fp) tg (tgR X.K t))
    (ht : ∀ (s : Shared) (H : Hp) (C : Addr) (cl : List (Str × Addr)) (fp : List Addr), PTs (X.blk s H scope (compEnvC scope cl C X.env) fp) ifs (SemT X.K gc))
    (he : ∀ (s : Shared) (H : Hp) (C : Addr) (cl : List (Str × Addr)) (fp : List Addr), PE (X.blk s H scope (compEnvC scope cl C X.env) fp) elt (SemD X.K ge)) (nf : nice iter = true) :
    PE X (.ListComp elt [⟨tg, iter, ifs, 0⟩] scope pos) (SemE X.K fun env st => bnd (gi env st) fun xs s => bnd (turns (bindT t) gc ge (wipeE env vs) xs [] s) fun ys s' => some (.fr (.list ys), s')) := by
  subst hvs
  exact peImp (pe_lc hc hN hi ok hg ht he (noFold nf X.env)) (lc_im hs)
end
end Pi

end
section
set_option Elab.async false
set_option linter.all false
set_option maxRecDepth 100000
set_option maxHeartbeats 1000000
namespace Pi
open PySem PySem.Spec PyProof.Rows L2
/-- as Stp, but what W tells may change -/
structure StpW (W : Addr → Prop) (M : List Addr) (H : Hp) (M' : List Addr) (H' : Hp) : Prop where
  pre : M <+: M'
  new : ∀ a ∈ M', a ∈ M ∨ H a = none
  fr : ∀ a o, a ∉ M → ¬ W a → H a = some o → H' a = some o
section
variable {K : PySem.W.Frag} {W : Addr → Prop} {M M' M2 : List Addr} {U Z : Addr → Prop} {H H' H2 : Hp} {st st' : Sto} {σ : L2.St} {env : Ev}
theorem Stp.toW (s : Stp M H M' H') : StpW W M H M' H' := ⟨s.pre, s.new, fun a o n _ e => s.fr a o n e⟩
theorem StpW.old (s : StpW W M H M' H') {a : Addr} {o : HO} (n : a ∉ M) (h : H a = some o) : a ∉ M' := fun q => by
  rcases s.new a q with z | z
  · exact n z
  · rw [z] at h; cases h
theorem StpW.step (s : StpW W M H M' H') (t : Stp M' H' M2 H2) (tw : ∀ a, W a → ∃ o, H' a = some o) : StpW W M H M2 H2 where
  pre := s.pre.trans t.pre
  new := fun a h => by
    rcases t.new a h with z | z
    · exact s.new a z
    · by_cases n : a ∈ M
      · exact .inl n
      · by_cases w : W a
        · obtain ⟨o, e⟩ := tw a w
          rw [z] at e; cases e
        · refine .inr ?_
          cases q : H a with
          | none => rfl
          | some o => rw [s.fr a o n w q] at z; cases z
  fr := fun a o n w h => t.fr a o (s.old n h) (s.fr a o n w h)
theorem StpW.upd (s : StpW W M H M' H') {p : Addr} {o : HO} (w : W p) : StpW W M H M' (upd H' p o) :=
  ⟨s.pre, s.new, fun a u n nw e => by
    rw [upd_ne fun z => nw (by rw [z]; exact w)]
    exact s.fr a u n nw e⟩
theorem StpW.keep (s : StpW W M H M' H') (wu : ∀ a, W a → U a) : Keep (Bar M U) (Bar M' U) H H' := fun a o n h => by
  have nm : a ∉ M := fun z => n (.inl z)
  refine ⟨s.fr a o nm (fun z => n (.inr (wu a z))) h, fun z => ?_⟩
  rcases z with z | z
  · exact s.old nm h z
  · exact n (.inr z)
theorem SltR.stepW (s : StpW W M H M' H') (wu : ∀ a, W a → U a) (ap : ∀ a ∈ M, ¬ U a) {sl : Slot} {o : Option V} (hw : ∀ a x, (sl = .ow x ∨ sl = .lk x) → o = some (.ref a) → ¬ W a) (h : SltR K M U H sl o) : SltR K M' U H' sl o := by
  have ow : ∀ {a x}, U a → ¬ W a → OwAt K (Bar M U) H H a x → OwAt K (Bar M' U) H' H' a x := fun {a x} u w q => q.keep (s.keep wu) fun o e => s.fr a o (fun z => ap a z u) w e
  cases sl with
  | no => trivial
  | sh x => obtain ⟨v, e, r⟩ := h; exact ⟨v, e, r.keep (s.keep wu)⟩
  | ow x => obtain ⟨a, e, u, q⟩ := h; exact ⟨a, e, u, ow u (hw a x (.inl rfl) e) q⟩
  | lk x => obtain ⟨a, e, u, q⟩ := h; exact ⟨a, e, u, ow u (hw a x (.inr rfl) e) q⟩
  | rf n =>
    obtain ⟨a, e, q⟩ := h
    refine ⟨a, ?_, q⟩
    obtain ⟨t, rfl⟩ := s.pre
    rw [List.getElem?_append_left (List.getElem?_eq_some_iff.mp e).1]
    exact e
theorem ER.stepW (er : ER K M U H st σ env) (s : StpW W M H M' H') (wu : ∀ a, W a → U a) (hw : ∀ a, OwV σ env a → ¬ W a) (so : StoOk K M' U H' st') : ER K M' U H' st' σ env :=
  ⟨so, er.len, fun i => SltR.stepW s wu er.sto.ap (fun a x h e => hw a ⟨i, x, h, e⟩) (er.env i)⟩
theorem StpW.lat (s : StpW W M H M' H') (wu : ∀ a, W a → U a) (hw : ∀ a, Z a → ¬ W a) (so : StoOk K M' U H' st') : Lat M U Z H M' U H' :=
  ⟨s.new, fun a z => .inl z, so.tracked, W, wu, hw, s.fr⟩
theorem drop_at {xs : List D} {i : Nat} {d : D} (h : i < xs.length) (e : xs[i]? = some d) : xs.drop i = d :: xs.drop (i + 1) := by
  rw [List.drop_eq_getElem_cons h]
  congr 1
  rw [List.getElem?_eq_getElem h] at e
  exact Option.some.inj e
theorem turns_cons {bd : D → Ev → Option Ev} {tt : Ev → Sto → Option (Bool × Sto)} {el : Ev → Sto → Option (D × Sto)} {env : Ev} {x : D} {xs acc : List D} {r : List D × Sto} (e : turns bd tt el env (x :: xs) acc st = some r) :
    ∃ e1 b s1, bd x env = some e1 ∧ tt e1 st = some (b, s1) ∧ ((b = false ∧ turns bd tt el env xs acc s1 = some r) ∨ (b = true ∧ ∃ y s2, el e1 s1 = some (y, s2) ∧ acc.length < SL ∧ turns bd tt el env xs (acc ++ [y]) s2 = some r)) := by
  unfold turns at e
  cases hb : bd x env with
  | none => rw [hb] at e; cases e
  | some e1 =>
    rw [hb] at e
    obtain ⟨b, s1, h1, e⟩ := bnd_eq e
    refine ⟨e1, b, s1, rfl, h1, ?_⟩
    cases b with
    | false => exact .inl ⟨rfl, e⟩
    | true =>
      obtain ⟨y, s2, h2, e⟩ := bnd_eq e
      refine .inr ⟨rfl, y, s2, h2, ?_⟩
      split at e
      · exact ⟨‹_›, e⟩
      · cases e
/-- the turns of one clause, the new list at Dl within -/
theorem turns_W {ws : List Nat} {t : Tg} {J : L2.It} {xs acc0 ys : List D} {us0 : List V} {s' : Sto} {Dl : Addr} {gc : Ev → Sto → Option (Bool × Sto)} {ge : Ev → Sto → Option (D × Sto)} {Nx : Hp → Prop} (hs : ∀ i ∈ slots t, i ∈ ws)
    (er : ER K M U H st σ env) (uD : U Dl) (wd : WD K M U (OwV σ env) H J xs) (hD : H Dl = some (.lst us0)) (ra0 : RpAll K (Bar M U) H us0 acc0) (hV : ∀ a, OwV σ env a → a ≠ Dl)
    (et : turns (bindT t) gc ge (wipeE env ws) xs acc0 st = some (ys, s')) (hN : ∀ M' H' us, StpW (· = Dl) M H M' H' → StoOk K M' U H' s' → H' Dl = some (.lst us) → RpAll K (Bar M' U) H' us ys → Nx H') :
    ∃ W1 : Nat → Nat → Hp → Prop, (∃ m, W1 0 m H) ∧ ∀ j k H, W1 j k H →
      (J.stop j H ∧ Nx H) ∨ (J.go j H ∧ ∃ Nx1 : Hp → Prop, (∀ H', Nx1 H' → ∃ k', k' < k ∧ W1 (j + 1) k' H') ∧ ∀ x H', J.yld j H x H' → tgR K t x (wipe σ ws) H' fun σ3 H5 => wipe σ3 ws = wipe σ ws ∧ SemT K gc σ3 H5 fun b H6 =>
        if b = true then SemD K ge σ3 H6 fun y H7 => ∃ acc, H7 Dl = some (.lst acc) ∧ acc.length < sizeLine ∧ Nx1 (upd H7 Dl (.lst (acc ++ [y]))) else Nx1 H6) := by
  have wu : ∀ a, a = Dl → U a := fun a e => by rw [e]; exact uD
  let Pv : Nat → Hp → Prop := fun i H1 => ∃ M' si acc us, StpW (· = Dl) M H M' H1 ∧ StoOk K M' U H1 si ∧ H1 Dl = some (.lst us) ∧ RpAll K (Bar M' U) H1 us acc ∧ turns (bindT t) gc ge (wipeE env ws) (xs.drop i) acc si = some (ys, s')
  refine ⟨fun i m H1 => m = xs.length - i ∧ i ≤ xs.length ∧ Pv i H1, ⟨xs.length, by simp, Nat.zero_le _, M, st, acc0, us0, Stp.refl.toW, er.sto, hD, ra0, et⟩, ?_⟩
  rintro i m H2 ⟨rfl, hi, M2, si, acc, us, p2, so2, eD, ra, et⟩
  have lat : Lat M U (OwV σ env) H M2 U H2 := p2.lat wu hV so2
  by_cases hlt : i < xs.length
  · refine .inr ⟨wd.go M2 _ H2 i lat hlt, Pv (i + 1), fun H' pv => ⟨xs.length - (i + 1), by omega, rfl, hlt, pv⟩, fun x H3 hy => ?_⟩
    obtain ⟨d, ed, gr, rx⟩ := wd.yld M2 _ H2 i x H3 lat hlt hy
    rw [drop_at hlt ed] at et
    obtain ⟨en, b, s4, eb, e4, et⟩ := turns_cons et
    have so3 := so2.grow gr
    have tr3 : ∀ a, a = Dl → ∃ o, H2 a = some o := fun a e => by rw [e]; exact ⟨_, eD⟩
    have p3 : StpW (· = Dl) M H M2 H3 := p2.step (Stp.grow gr) tr3
    have er3 := er.stepW p3 wu hV so3
    have eD3 : H3 Dl = some (.lst us) := gr _ _ eD
    refine bind_ok t (er3.wipe ws) rx eb fun σ2 er4 hl ag => ⟨wipe_eq (by rw [hl, wipe_length]) fun j hj => ag j fun z => hj (hs j z), ?_⟩
    refine ⟨M2, _, si, en, b, s4, er4, e4, fun H5 M5 p5 so5 => ?_⟩
    have nD2 : Dl ∉ M2 := fun z => so2.ap Dl z uD
    have eD5 : H5 Dl = some (.lst us) := p5.fr _ _ nD2 eD3
    have p35 : StpW (· = Dl) M H M5 H5 := p3.step p5 fun a e => by rw [e]; exact ⟨_, eD3⟩
    have ra5 := (ra.step (Stp.grow gr)).step p5
    rcases et with ⟨rfl, et⟩ | ⟨rfl, y, s6, e6, hz, et⟩
    · show if false = true then _ else Pv (i + 1) H5
      rw [if_neg Bool.false_ne_true]
      exact ⟨M5, s4, acc, us, p35, so5, eD5, ra5, et⟩
    · show if true = true then (SemD K ge σ2 H5 fun y H4 => ∃ acc, H4 Dl = some (HO.lst acc) ∧ acc.length < sizeLine ∧ Pv (i + 1) (L2.upd H4 Dl (HO.lst (acc ++ [y])))) else _
      rw [if_pos rfl]
      refine ⟨M5, _, s4, en, y, s6, er4.step p5 so5, e6, fun v H6 M6 p6 so6 rv => ?_⟩
      have nD5 : Dl ∉ M5 := fun z => so5.ap Dl z uD
      have eD6 : H6 Dl = some (.lst us) := p6.fr _ _ nD5 eD5
      refine ⟨us, eD6, Nat.lt_of_lt_of_le (by rw [ra5.length]; exact hz) (by decide), M6, s6, acc ++ [y], us ++ [v], (p35.step p6 fun a e => by rw [e]; exact ⟨_, eD5⟩).upd rfl, so6.upd uD, upd_same, ?_, et⟩
      exact ((ra5.step p6).append (.one rv)).keep (keepU uD)
  · have e : i = xs.length := by omega
    subst e
    refine .inl ⟨wd.stop M2 _ H2 lat, ?_⟩
    rw [List.drop_length] at et
    cases et
    exact hN M2 H2 us p2 so2 eD ra
mutual
theorem bind_look : ∀ (t : Tg) {x : D} {env env' : Ev}, bindT t x env = some env' → env'.length = env.length ∧ ∀ i, (look env' i = look env i ∧ i ∉ slots t) ∨ ∃ y, look env' i = .sh y
  | .n i, x, env, env', e => by
    obtain ⟨h, e⟩ := dec2 (show (if i < env.length then some (env.set i (.sh x)) else none) = some env' from e)
    subst e
    refine ⟨List.length_set, fun j => ?_⟩
    rw [look_set env i j _ h]
    by_cases q : j = i
    · rw [if_pos q]; exact .inr ⟨_, rfl⟩
    · rw [if_neg q]; exact .inl ⟨rfl, fun z => q (List.mem_singleton.mp z)⟩
  | .t ts, x, env, env', e => by
    cases x with
    | tuple xs => exact binds_look ts e
    | list xs => exact binds_look ts e
    | none => cases e
    | bool b => cases e
    | int b => cases e
    | str b => cases e
    | dict b => cases e
theorem binds_look : ∀ (ts : Tgs) {xs : List D} {env env' : Ev}, bindTs ts xs env = some env' → env'.length = env.length ∧ ∀ i, (look env' i = look env i ∧ i ∉ slotss ts) ∨ ∃ y, look env' i = .sh y
  | .nil, xs, env, env', e => by
    cases xs with
    | nil => cases e; exact ⟨rfl, fun i => .inl ⟨rfl, fun z => nomatch z⟩⟩
    | cons a b => cases e
  | .cons t ts, xs, env, env', e => by
    cases xs with
    | nil => cases e
    | cons x xs =>
      obtain ⟨e1, e2, e3⟩ := Option.bind_eq_some_iff.mp (show (bindT t x env).bind (fun env' => bindTs ts xs env') = some env' from e)
      obtain ⟨l1, h1⟩ := bind_look t e2
      obtain ⟨l2, h2⟩ := binds_look ts e3
      refine ⟨l2.trans l1, fun i => ?_⟩
      rcases h2 i with ⟨q, n⟩ | q
      · rcases h1 i with ⟨q', n'⟩ | ⟨y, q'⟩
        · exact .inl ⟨q.trans q', fun z => (List.mem_append.mp z).elim n' n⟩
        · exact .inr ⟨y, q.trans q'⟩
      · exact .inr q
end
theorem turns2_cons {bd : D → Ev → Option Ev} {tt : Ev → Sto → Option (Bool × Sto)} {inn : Ev → List D → Sto → Option (List D × Sto)} {env : Ev} {x : D} {xs acc : List D} {r : List D × Sto} (e : turns2 bd tt inn env (x :: xs) acc st = some r) :
    ∃ e1 b s1, bd x env = some e1 ∧ tt e1 st = some (b, s1) ∧ ((b = false ∧ turns2 bd tt inn env xs acc s1 = some r) ∨ (b = true ∧ ∃ acc' s2, inn e1 acc s1 = some (acc', s2) ∧ turns2 bd tt inn env xs acc' s2 = some r)) := by
  unfold turns2 at e
  cases hb : bd x env with
  | none => rw [hb] at e; cases e
  | some e1 =>
    rw [hb] at e
    obtain ⟨b, s1, h1, e⟩ := bnd_eq e
    refine ⟨e1, b, s1, rfl, h1, ?_⟩
    cases b with
    | false => exact .inl ⟨rfl, e⟩
    | true =>
      obtain ⟨y, s2, h2, e⟩ := bnd_eq e
      exact .inr ⟨rfl, y, s2, h2, e⟩
end
section
variable {X : Cx}
theorem lc2_im {vs ws : List Nat} {t t1 : Tg} {gi gi1 : Ev → Sto → Option (List D × Sto)} {gc gc1 : Ev → Sto → Option (Bool × Sto)} {ge : Ev → Sto → Option (D × Sto)} (hs : ∀ i ∈ slots t, i ∈ vs) (hs1 : ∀ i ∈ slots t1, i ∈ ws) (σ : L2.St) (H : Hp) (Q : VK)
    (hh : SemE X.K (fun env st => bnd (gi env st) fun xs s => bnd (turns2 (bindT t) gc
        (fun e1 acc s1 => bnd (gi1 e1 s1) fun zs s2 => turns (bindT t1) gc1 ge (wipeE e1 ws) zs acc s2) (wipeE env vs) xs [] s) fun ys s' => some (.fr (.list ys), s')) σ H Q) :
    tLc2 (SemI X.K gi) (tgR X.K t) (SemT X.K gc) (SemI X.K gi1) (tgR X.K t1) (SemT X.K gc1) (SemD X.K ge) vs ws σ H Q := by
  obtain ⟨M, U, st, env, w, st', er, ex, q⟩ := hh
  obtain ⟨xs, s, e1, ex⟩ := bnd_eq ex
  obtain ⟨ys, s', e2, ex⟩ := bnd_eq ex
  cases ex
  refine ⟨M, U, st, env, xs, s, er, e1, fun J H1 M1 p1 so1 wd => fun Dl nD => ?_⟩
  have nM : Dl ∉ M := fun z => by
    obtain ⟨o, e⟩ := so1.tracked Dl (Or.inl (p1.mem z))
    rw [nD] at e; cases e
  have nH : H Dl = none := p1.none_of nM nD
  let U1 : Addr → Prop := fun b => U b ∨ b = Dl
  let inn : Ev → List D → Sto → Option (List D × Sto) := fun e1 acc s1 => bnd (gi1 e1 s1) fun zs s2 => turns (bindT t1) gc1 ge (wipeE e1 ws) zs acc s2
  let Pv : Nat → Hp → Prop := fun i H => ∃ M' si acc us, Stp M1 H1 M' H ∧ StoOk X.K M' U1 H si ∧ H Dl = some (.lst us) ∧ RpAll X.K (Bar M' U1) H us acc ∧ turns2 (bindT t) gc inn (wipeE env vs) (xs.drop i) acc si = some (ys, st')
  refine ⟨fun i m H => m = xs.length - i ∧ i ≤ xs.length ∧ Pv i H, ⟨xs.length, by simp, Nat.zero_le _, M1, s, [], [], (Stp.grow (growN nD)), so1.more nD, upd_same, .nil, e2⟩, ?_⟩
  rintro i m H2 ⟨rfl, hi, M2, si, acc, us, p2, so2, eD, ra, et⟩
  have lat : Lat M1 U (OwV σ env) H1 M2 U1 H2 := ⟨p2.new, fun a z => z.elim .inl fun z => .inr (by rw [z]; exact nD), so2.tracked, fun _ => False, fun _ z => z.elim, fun _ _ z => z, fun a o n _ e => p2.fr a o n e⟩
  have uD : U1 Dl := .inr rfl
  by_cases hlt : i < xs.length
  · refine .inr ⟨wd.go M2 _ H2 i lat hlt, Pv (i + 1), fun H' pv => ⟨xs.length - (i + 1), by omega, rfl, hlt, pv⟩, fun x H3 hy => ?_⟩
    obtain ⟨d, ed, gr, rx⟩ := wd.yld M2 _ H2 i x H3 lat hlt hy
    rw [drop_at hlt ed] at et
    obtain ⟨en, b, s4, eb, e4, et⟩ := turns2_cons et
    have so3 := so2.grow gr
    have p03 : Stp M H M2 H3 := (p1.trans p2).trans (Stp.grow gr)
    have er3 : ER X.K M2 U1 H3 si σ env := ⟨so3, er.len, fun j => slr_more p03 er.sto.ap er.sto.tr nH so3 (er.env j)⟩
    refine bind_ok t (er3.wipe vs) rx eb fun σ2 er4 hl ag => ⟨wipe_eq (by rw [hl, wipe_length]) fun j hj => ag j fun z => hj (hs j z), ?_⟩
    refine ⟨M2, _, si, en, b, s4, er4, e4, fun H5 M5 p5 so5 => ?_⟩
    have nD2 : Dl ∉ M2 := fun z => so2.ap Dl z uD
    have eD3 : H3 Dl = some (.lst us) := gr _ _ eD
    have eD5 : H5 Dl = some (.lst us) := p5.fr _ _ nD2 eD3
    have p35 : Stp M1 H1 M5 H5 := (p2.trans (Stp.grow gr)).trans p5
    have ra5 := (ra.step (Stp.grow gr)).step p5
    have nxt : ∀ {H' : Hp}, Pv (i + 1) H' → Pv (i + 1) H' := fun h => h
    rcases et with ⟨rfl, et⟩ | ⟨rfl, acc', s7, e6, et⟩
    · show if false = true then _ else Pv (i + 1) H5
      rw [if_neg Bool.false_ne_true]
      exact ⟨M5, s4, acc, us, p35, so5, eD5, ra5, et⟩
    · show if true = true then SemI X.K gi1 σ2 H5 _ else _
      rw [if_pos rfl]
      obtain ⟨zs, s6, e7, e8⟩ := bnd_eq e6
      have er5 := er4.step p5 so5
      refine ⟨M5, _, s4, en, zs, s6, er5, e7, fun J1 H6 M6 p6 so6 wd1 => ?_⟩
      have nD5 : Dl ∉ M5 := fun z => so5.ap Dl z uD
      have eD6 : H6 Dl = some (.lst us) := p6.fr _ _ nD5 eD5
      have hV : ∀ a, OwV σ2 en a → a ≠ Dl := fun a ⟨j, y, h1, h2⟩ e => by
        have ho : look (wipeE env vs) j = look en j ∧ j ∉ slots t := by
          rcases (bind_look t eb).2 j with ⟨z, n⟩ | ⟨y', z⟩
          · exact ⟨z.symm, n⟩
          · rcases h1 with h1 | h1 <;> (rw [z] at h1; cases h1)
        have hj : j ∉ vs := fun z => by
          have := look_wipe env j vs
          rw [if_pos z, ho.1] at this
          rcases h1 with h1 | h1 <;> (rw [this] at h1; cases h1)
        have e1 : look env j = look en j := by
          have := look_wipe env j vs
          rw [if_neg hj, ho.1] at this
          exact this.symm
        have e2 : σ2[j]? = σ[j]? := by rw [ag j ho.2, wipe_at, if_neg hj]
        have := er.env j
        rw [e1] at this
        rw [e2] at h2
        rcases h1 with h1 | h1
        · rw [h1] at this
          obtain ⟨b, q1, q2, q3⟩ := this
          rw [h2] at q1; cases q1
          obtain ⟨o, q4⟩ := q3.some
          rw [e, nH] at q4; cases q4
        · rw [h1] at this
          obtain ⟨b, q1, q2, q3⟩ := this
          rw [h2] at q1; cases q1
          obtain ⟨o, q4⟩ := q3.some
          rw [e, nH] at q4; cases q4
      refine turns_W hs1 (er5.step p6 so6) uD wd1 eD6 (ra5.step p6) hV e8 fun M7 H7 us7 p7 so7 eD7 ra7 => ?_
      refine ⟨M7, s7, acc', us7, ?_, so7, eD7, ra7, et⟩
      have p16 := p35.trans p6
      refine ⟨p16.pre.trans p7.pre, fun a h => ?_, fun a o n h => ?_⟩
      · rcases p7.new a h with z | z
        · exact p16.new a z
        · by_cases n : a ∈ M1
          · exact .inl n
          · exact .inr (p16.none_of n z)
      · have ne : a ≠ Dl := ne_of_none h nD
        exact p7.fr a o (p16.old n h) ne (p16.fr a o n h)
  · have e : i = xs.length := by omega
    subst e
    refine .inl ⟨wd.stop M2 _ H2 lat, ?_⟩
    rw [List.drop_length] at et
    cases et
    exact q Dl H2 M2 (p1.trans p2) nH so2 ⟨us, eD, ra⟩
theorem se_lc2 {elt tg iter tg1 iter1 : Expr} {ifs ifs1 : List Expr} {scope : Scope} {vs ws : List Nat} {own : List (Str × Nat)} {pos : Pos} {t t1 : Tg} {gi gi1 : Ev → Sto → Option (List D × Sto)} {gc gc1 : Ev → Sto → Option (Bool × Sto)} {ge : Ev → Sto → Option (D × Sto)}
    (hc : X.calm = true) (hN : X.N.Nodup) (hi : PI X tg iter (SemI X.K gi)) (ok : BlkOk X.N X.env.scope scope own) (hvs : own.map (·.2) = vs) (hs : ∀ i ∈ slots t, i ∈ vs) (hs1 : ∀ i ∈ slots t1, i ∈ ws) (hw : ∀ i ∈ ws, i ∈ vs)
    (hg : ∀ (s : Shared) (H : Hp) (C : Addr) (cl : List (Str × Addr)) (fp : List Addr), PG (X.blk s H scope (compEnvC scope cl C X.env) fp) tg (tgR X.K t))
    (ht : ∀ (s : Shared) (H : Hp) (C : Addr) (cl : List (Str × Addr)) (fp : List Addr), PTs (X.blk s H scope (compEnvC scope cl C X.env) fp) ifs (SemT X.K gc))
    (hi1 : ∀ (s : Shared) (H : Hp) (C : Addr) (cl : List (Str × Addr)) (fp : List Addr), PI (X.blk s H scope (compEnvC scope cl C X.env) fp) tg1 iter1 (SemI X.K gi1))
    (hg1 : ∀ (s : Shared) (H : Hp) (C : Addr) (cl : List (Str × Addr)) (fp : List Addr), PG (X.blk s H scope (compEnvC scope cl C X.env) fp) tg1 (tgR X.K t1))
    (ht1 : ∀ (s : Shared) (H : Hp) (C : Addr) (cl : List (Str × Addr)) (fp : List Addr), PTs (X.blk s H scope (compEnvC scope cl C X.env) fp) ifs1 (SemT X.K gc1))
    (he : ∀ (s : Shared) (H : Hp) (C : Addr) (cl : List (Str × Addr)) (fp : List Addr), PE (X.blk s H scope (compEnvC scope cl C X.env) fp) elt (SemD X.K ge)) (nf : nice iter = true) (nf1 : nice iter1 = true) :
    PE X (.ListComp elt [⟨tg, iter, ifs, 0⟩, ⟨tg1, iter1, ifs1, 0⟩] scope pos) (SemE X.K fun env st => bnd (gi env st) fun xs s => bnd (turns2 (bindT t) gc
        (fun e1 acc s1 => bnd (gi1 e1 s1) fun zs s2 => turns (bindT t1) gc1 ge (wipeE e1 ws) zs acc s2) (wipeE env vs) xs [] s) fun ys s' => some (.fr (.list ys), s')) := by
  subst hvs
  exact peImp (pe_lc2 (vs1 := ws) hc hN hi ok hw hg ht hi1 hg1 ht1 he (noFold nf X.env) fun env x => noFold nf1 env x) (lc2_im hs hs1)
end
end Pi

end
section
set_option Elab.async false
set_option linter.all false
set_option maxRecDepth 100000
set_option maxHeartbeats 1000000
namespace Pi
open PySem PySem.Spec PyProof.Rows L2
/-! ### what holds between statements -/
def OwW (σ : L2.St) (env : Ev) (a : Addr) : Prop := ∃ (i : Nat) (x : D), look env i = .ow x ∧ (σ[i]?).join = some (.ref a)
def UZ (Z : Addr → Prop) (σ : L2.St) (env : Ev) (a : Addr) : Prop := Z a ∨ OwV σ env a
def IsOw (s : Slot) : Prop := ∃ x, s = .ow x ∨ s = .lk x
structure SRl (K : PySem.W.Frag) (M : List Addr) (Z : Addr → Prop) (H : Hp) (st : Sto) (σ : L2.St) (env : Ev) : Prop where
  er : ER K M (UZ Z σ env) H st σ env
  ds : ∀ i j a, IsOw (look env i) → IsOw (look env j) → (σ[i]?).join = some (.ref a) → (σ[j]?).join = some (.ref a) → i = j
  nz : ∀ a, OwV σ env a → ¬ Z a
structure SSt (W : Addr → Prop) (M : List Addr) (H : Hp) (W' : Addr → Prop) (M' : List Addr) (H' : Hp) : Prop where
  pre : M <+: M'
  new : ∀ a ∈ M', a ∈ M ∨ H a = none
  fr : ∀ a o, a ∉ M → ¬ W a → H a = some o → H' a = some o
  w : ∀ a, W' a → W a ∨ H a = none
  th : ∀ a, (∃ o, H a = some o) → ∃ o, H' a = some o
def Lks (σ : L2.St) (env : Ev) (σ' : L2.St) (env' : Ev) : Prop := ∀ i x, look env' i = .lk x → look env i = .lk x ∧ (σ'[i]?).join = (σ[i]?).join
section
variable {K : PySem.W.Frag} {W W' W1 W2 : Addr → Prop} {M M' M1 M2 : List Addr} {U U' Z : Addr → Prop} {H H' H1 H2 : Hp} {st st' st1 : Sto} {σ σ' σ1 : L2.St} {env env' env1 : Ev}
theorem none_of_th (th : ∀ a, (∃ o, H a = some o) → ∃ o, H' a = some o) {a : Addr} (e : H' a = none) : H a = none := by
  cases q : H a with
  | none => rfl
  | some o =>
    obtain ⟨u, z⟩ := th a ⟨o, q⟩
    rw [e] at z; cases z
theorem SSt.refl (h : ∀ a, W' a → W a) : SSt W M H W' M H := ⟨List.prefix_refl _, fun _ h => .inl h, fun _ _ _ _ e => e, fun a z => .inl (h a z), fun _ z => z⟩
theorem SSt.trans (s : SSt W M H W1 M1 H1) (t : SSt W1 M1 H1 W2 M2 H2) : SSt W M H W2 M2 H2 where
  pre := s.pre.trans t.pre
  new := fun a h => (t.new a h).elim (s.new a) fun z => .inr (none_of_th s.th z)
  fr := fun a o n w e => t.fr a o (fun z => (s.new a z).elim n fun q => by rw [q] at e; cases e) (fun z => (s.w a z).elim w fun q => by rw [q] at e; cases e) (s.fr a o n w e)
  w := fun a h => (t.w a h).elim (s.w a) fun z => .inr (none_of_th s.th z)
  th := fun a h => t.th a (s.th a h)
theorem SSt.mono (s : SSt W M H W1 M1 H1) (h : ∀ a, W2 a → W1 a) : SSt W M H W2 M1 H1 := ⟨s.pre, s.new, s.fr, fun a z => s.w a (h a z), s.th⟩
theorem SSt.ofStp (s : Stp M H M1 H1) (so : StoOk K M1 U H1 st) (h : ∀ a, W' a → W a ∨ H a = none) : SSt W M H W' M1 H1 :=
  ⟨s.pre, s.new, fun a o n _ e => s.fr a o n e, h, fun a ⟨o, e⟩ => by
    by_cases n : a ∈ M
    · exact so.tracked a (.inl (s.mem n))
    · exact ⟨o, s.fr a o n e⟩⟩
theorem Lks.refl : Lks σ env σ env := fun _ _ h => ⟨h, rfl⟩
theorem Lks.trans (h : Lks σ env σ1 env1) (g : Lks σ1 env1 σ' env') : Lks σ env σ' env' := fun i x e => by
  obtain ⟨e1, q1⟩ := g i x e
  obtain ⟨e2, q2⟩ := h i x e1
  exact ⟨e2, q1.trans q2⟩
theorem OwW.v {a : Addr} (h : OwW σ env a) : OwV σ env a := by
  obtain ⟨i, x, e, q⟩ := h
  exact ⟨i, x, .inl e, q⟩
theorem SRl.step (r : SRl K M Z H st σ env) (s : Stp M H M1 H1) (so : StoOk K M1 (UZ Z σ env) H1 st1) : SRl K M1 Z H1 st1 σ env := ⟨r.er.step s so, r.ds, r.nz⟩
/-- fewer owners -/
theorem rp_less {v : V} {x : PyData} (h : ∀ a, U' a → U a) (r : Rp K (Bar M U) H v x) : Rp K (Bar M U') H v x := r.keep fun b o nb e => ⟨e, fun z => nb (z.elim .inl fun z => .inr (h b z))⟩
theorem ow_less {a : Addr} {x : PyData} (h : ∀ a, U' a → U a) (r : OwAt K (Bar M U) H H a x) : OwAt K (Bar M U') H H a x := r.keep (fun b o nb e => ⟨e, fun z => nb (z.elim .inl fun z => .inr (h b z))⟩) fun _ e => e
theorem ER.less (er : ER K M U H st σ env) (h : ∀ a, U' a → U a) (hw : ∀ a, OwV σ env a → U' a) : ER K M U' H st σ env := by
  refine ⟨er.sto.less h, er.len, fun i => ?_⟩
  have q := er.env i
  cases hl : look env i with
  | no => trivial
  | sh x => rw [hl] at q; obtain ⟨v, e, r⟩ := q; exact ⟨v, e, rp_less h r⟩
  | ow x => rw [hl] at q; obtain ⟨a, e, u, r⟩ := q; exact ⟨a, e, hw a ⟨i, x, .inl hl, e⟩, ow_less h r⟩
  | lk x => rw [hl] at q; obtain ⟨a, e, u, r⟩ := q; exact ⟨a, e, hw a ⟨i, x, .inr hl, e⟩, ow_less h r⟩
  | rf n => rw [hl] at q; exact q
/-- the owners that are left are as they were -/
def Sub (σ : L2.St) (env : Ev) (σ' : L2.St) (env' : Ev) : Prop := ∀ i, IsOw (look env' i) → look env' i = look env i ∧ (σ'[i]?).join = (σ[i]?).join
theorem Sub.v (h : Sub σ env σ' env') {a : Addr} (q : OwV σ' env' a) : OwV σ env a := by
  obtain ⟨i, x, e, q⟩ := q
  obtain ⟨h1, h2⟩ := h i ⟨x, e⟩
  exact ⟨i, x, by rw [← h1]; exact e, by rw [← h2]; exact q⟩
theorem Sub.w (h : Sub σ env σ' env') {a : Addr} (q : OwW σ' env' a) : OwW σ env a := by
  obtain ⟨i, x, e, q⟩ := q
  obtain ⟨h1, h2⟩ := h i ⟨x, .inl e⟩
  exact ⟨i, x, by rw [← h1]; exact e, by rw [← h2]; exact q⟩
theorem Sub.lks (h : Sub σ env σ' env') : Lks σ env σ' env' := fun i x e => by
  obtain ⟨h1, h2⟩ := h i ⟨x, .inr e⟩
  exact ⟨by rw [← h1]; exact e, h2⟩
theorem SRl.sub (r : SRl K M Z H st σ env) (s : Sub σ env σ' env') (er : ER K M1 (UZ Z σ env) H1 st1 σ' env') : SRl K M1 Z H1 st1 σ' env' where
  er := er.less (fun a z => z.elim .inl fun z => .inr (s.v z)) fun a z => .inr z
  ds := fun i j a hi hj e1 e2 => by
    obtain ⟨h1, h2⟩ := s i hi
    obtain ⟨h3, h4⟩ := s j hj
    exact r.ds i j a (h1 ▸ hi) (h3 ▸ hj) (h2 ▸ e1) (h4 ▸ e2)
  nz := fun a z => r.nz a (s.v z)
end
/-! ### what a statement wants -/
def NPost (K : PySem.W.Frag) (M : List Addr) (Z : Addr → Prop) (H : Hp) (σ : L2.St) (env : Ev) (st' : Sto) (env' : Ev) (Q : L2.St → Hp → Prop) : Prop :=
  ∀ M' H' σ', SSt (OwW σ env) M H (OwW σ' env') M' H' → Lks σ env σ' env' → SRl K M' Z H' st' σ' env' → Q σ' H'
def Non : Addr → Prop := fun _ => False
def RPost (K : PySem.W.Frag) (M : List Addr) (Z : Addr → Prop) (H : Hp) (W : Addr → Prop) (st' : Sto) (w : Vl) (Q : VK) : Prop := match w with
  | .d x => ∀ v H' M', SSt W M H Non M' H' → StoOk K M' Z H' st' → Rp K (Bar M' Z) H' v x → Q v H'
  | .fr x => ∀ a H' M', SSt W M H Non M' H' → (W a ∨ H a = none) → StoOk K M' (fun b => Z b ∨ b = a) H' st' → OwAt K (Bar M' fun b => Z b ∨ b = a) H' H' a x → Q (.ref a) H'
  | .rf n => ∀ a H' M', SSt W M H Non M' H' → StoOk K M' Z H' st' → M'[n]? = some a → Q (.ref a) H'
def FPost (K : PySem.W.Frag) (M : List Addr) (Z : Addr → Prop) (H : Hp) (σ : L2.St) (env : Ev) (f : Fl) (env' : Ev) (st' : Sto) (D : Ends) : Prop := match f with
  | .nx => NPost K M Z H σ env st' env' D.nx
  | .bk => NPost K M Z H σ env st' env' D.bk
  | .ct => NPost K M Z H σ env st' env' D.ct
  | .rt w => RPost K M Z H (OwW σ env) st' w D.rt
def SemS (K : PySem.W.Frag) (f : Ev → Sto → SR) : TS := fun D σ H => ∃ M Z st env fl env' st', SRl K M Z H st σ env ∧ f env st = some (fl, env', st') ∧ FPost K M Z H σ env fl env' st' D
section
variable {K : PySem.W.Frag} {M M' M1 M2 : List Addr} {U U' Z W W1 : Addr → Prop} {H H' H1 H2 : Hp} {st st' st1 : Sto} {σ σ' σ1 : L2.St} {env env' env1 : Ev} {D : Ends}
theorem RPost.go (s : SSt W M H W1 M1 H1) {w : Vl} {Q : VK} (q : RPost K M Z H W st' w Q) : RPost K M1 Z H1 W1 st' w Q := by
  cases w with
  | d x => exact fun v H' M' t so r => q v H' M' (s.trans t) so r
  | fr x => exact fun a H' M' t h so r => q a H' M' (s.trans t) (h.elim (s.w a) fun z => .inr (none_of_th s.th z)) so r
  | rf n => exact fun a H' M' t so r => q a H' M' (s.trans t) so r
theorem NPost.go (s : SSt (OwW σ env) M H (OwW σ1 env1) M1 H1) (l : Lks σ env σ1 env1) {Q : L2.St → Hp → Prop} (q : NPost K M Z H σ env st' env' Q) : NPost K M1 Z H1 σ1 env1 st' env' Q :=
  fun M' H' σ' t l' r => q M' H' σ' (s.trans t) (l.trans l') r
theorem FPost.go (s : SSt (OwW σ env) M H (OwW σ1 env1) M1 H1) (l : Lks σ env σ1 env1) {f : Fl} (q : FPost K M Z H σ env f env' st' D) : FPost K M1 Z H1 σ1 env1 f env' st' D := by
  cases f with
  | nx => exact NPost.go s l q
  | bk => exact NPost.go s l q
  | ct => exact NPost.go s l q
  | rt w => exact RPost.go s q
/-- only reading went on -/
theorem FPost.read (s : Stp M H M1 H1) (so : StoOk K M1 U H1 st1) {f : Fl} (q : FPost K M Z H σ env f env' st' D) : FPost K M1 Z H1 σ env f env' st' D := q.go (SSt.ofStp s so fun _ z => .inl z) Lks.refl
theorem sem_pass (h : SemS K (fun env st => some (.nx, env, st)) D σ H) : tNext D σ H := by
  obtain ⟨M, Z, st, env, fl, env', st', r, e, q⟩ := h
  cases e
  exact q M H σ (SSt.refl fun _ z => z) Lks.refl r
theorem sem_brk (h : SemS K (fun env st => some (.bk, env, st)) D σ H) : tBreak D σ H := by
  obtain ⟨M, Z, st, env, fl, env', st', r, e, q⟩ := h
  cases e
  exact q M H σ (SSt.refl fun _ z => z) Lks.refl r
theorem sem_cnt (h : SemS K (fun env st => some (.ct, env, st)) D σ H) : tCont D σ H := by
  obtain ⟨M, Z, st, env, fl, env', st', r, e, q⟩ := h
  cases e
  exact q M H σ (SSt.refl fun _ z => z) Lks.refl r
theorem sem_never (h : SemS K (fun env st => none) D σ H) : tNever D σ H := by
  obtain ⟨M, Z, st, env, fl, env', st', r, e, q⟩ := h
  cases e
theorem sem_seq {f g : Ev → Sto → SR} (h : SemS K (fun env st => sbnd (f env st) g) D σ H) : tSeq (SemS K f) (SemS K g) D σ H := by
  obtain ⟨M, Z, st, env, fl, env', st', r, e, q⟩ := h
  have e : sbnd (f env st) g = some (fl, env', st') := e
  cases hf : f env st with
  | none => rw [show sbnd (f env st) g = none by rw [hf]; rfl] at e; cases e
  | some p =>
    obtain ⟨fl1, e1, s1⟩ := p
    cases fl1 with
    | nx =>
      have e : g e1 s1 = some (fl, env', st') := by rw [show sbnd (f env st) g = g e1 s1 by rw [hf]; rfl] at e; exact e
      exact ⟨M, Z, st, env, .nx, e1, s1, r, hf, fun M' H' σ' s l r' => ⟨M', Z, s1, e1, fl, env', st', r', e, q.go s l⟩⟩
    | bk =>
      rw [show sbnd (f env st) g = some (.bk, e1, s1) by rw [hf]; rfl] at e
      cases e
      exact ⟨M, Z, st, env, .bk, _, _, r, hf, q⟩
    | ct =>
      rw [show sbnd (f env st) g = some (.ct, e1, s1) by rw [hf]; rfl] at e
      cases e
      exact ⟨M, Z, st, env, .ct, _, _, r, hf, q⟩
    | rt w =>
      rw [show sbnd (f env st) g = some (.rt w, e1, s1) by rw [hf]; rfl] at e
      cases e
      exact ⟨M, Z, st, env, .rt w, _, _, r, hf, q⟩
theorem sem_if {c : Ev → Sto → Option (Bool × Sto)} {f g : Ev → Sto → SR} (h : SemS K (fun env st => match c env st with | some (true, s) => f env s | some (false, s) => g env s | none => none) D σ H) : tIfS (SemT K c) (SemS K f) (SemS K g) D σ H := by
  obtain ⟨M, Z, st, env, fl, env', st', r, e, q⟩ := h
  cases hc : c env st with
  | none => simp only [hc] at e; cases e
  | some p =>
    obtain ⟨b, s1⟩ := p
    refine ⟨M, _, st, env, b, s1, r.er, hc, fun H1 M1 s so => ?_⟩
    cases b with
    | true =>
      simp only [hc] at e
      rw [if_pos rfl]
      exact ⟨M1, Z, s1, env, fl, env', st', r.step s so, e, q.read s so⟩
    | false =>
      simp only [hc] at e
      rw [if_neg Bool.false_ne_true]
      exact ⟨M1, Z, s1, env, fl, env', st', r.step s so, e, q.read s so⟩
theorem sem_asg {f : Ev → Sto → Option (PyData × Sto)} {t : Tg} (h : SemS K (fun env st => match f env st with | some (x, s) => (bindT t x env).map fun e1 => (.nx, e1, s) | none => none) D σ H) : tAsg (SemD K f) (tgR K t) D σ H := by
  obtain ⟨M, Z, st, env, fl, env', st', r, e, q⟩ := h
  cases hf : f env st with
  | none => simp only [hf] at e; cases e
  | some p =>
    obtain ⟨x, s1⟩ := p
    simp only [hf] at e
    obtain ⟨e1, hb, e⟩ := Option.map_eq_some_iff.mp e
    cases e
    refine ⟨M, _, st, env, x, st', r.er, hf, fun v H1 M1 s so rv => bind_ok t (r.er.step s so) rv hb fun σ' er' hl ag => ?_⟩
    have sub : Sub σ env σ' env' := fun i ⟨y, hy⟩ => by
      rcases (bind_look t hb).2 i with ⟨h1, h2⟩ | ⟨z, h1⟩
      · exact ⟨h1, by rw [ag i h2]⟩
      · rw [h1] at hy; rcases hy with hy | hy <;> cases hy
    exact q M1 H1 σ' (SSt.ofStp s so fun a z => .inl (sub.w z)) sub.lks (r.sub sub er')
theorem sem_abox {f : Ev → Sto → Option (Vl × Sto)} {i : Nat} (h : SemS K (fun env st => match f env st with | some (.rf n, s) => if i < env.length then some (.nx, env.set i (.rf n), s) else none | _ => none) D σ H) : tAsg (SemE K f) (gName i) D σ H := by
  obtain ⟨M, Z, st, env, fl, env', st', r, e, q⟩ := h
  cases hf : f env st with
  | none => simp only [hf] at e; cases e
  | some p =>
    obtain ⟨w, s1⟩ := p
    cases w with
    | d x => simp only [hf] at e; cases e
    | fr x => simp only [hf] at e; cases e
    | rf n =>
      simp only [hf] at e
      obtain ⟨hi, e⟩ := dec2 (show (if i < env.length then some (Fl.nx, env.set i (.rf n), s1) else none) = some (fl, env', st') from e)
      cases e
      refine ⟨M, _, st, env, _, st', r.er, hf, fun a H1 M1 s so ha => ?_⟩
      have hi' : i < σ.length := by rw [← r.er.len]; exact hi
      have lk : ∀ j, look (env.set i (.rf n)) j = if j = i then .rf n else look env j := fun j => look_set env i j _ hi
      have lv : ∀ j, ((σ.set i (some (.ref a)))[j]?).join = if j = i then some (.ref a) else (σ[j]?).join := fun j => join_set σ i j _ hi'
      have er1 := r.er.step s so
      have er2 : ER K M1 (UZ Z σ env) H1 st' (σ.set i (some (.ref a))) (env.set i (.rf n)) := ⟨er1.sto, by rw [List.length_set, List.length_set]; exact er1.len, fun j => by
        rw [lk, lv]
        by_cases c : j = i
        · rw [if_pos c, if_pos c]; exact ⟨a, ha, rfl⟩
        · rw [if_neg c, if_neg c]; exact er1.env j⟩
      have sub : Sub σ env (σ.set i (some (.ref a))) (env.set i (.rf n)) := fun j ⟨y, hy⟩ => by
        rw [lk] at hy
        rw [lk, lv]
        by_cases c : j = i
        · rw [if_pos c] at hy; rcases hy with hy | hy <;> cases hy
        · rw [if_neg c, if_neg c]; exact ⟨rfl, rfl⟩
      exact q M1 H1 _ (SSt.ofStp s so fun a z => .inl (sub.w z)) sub.lks (r.sub sub er2)
theorem sem_own {f : Ev → Sto → Option (Vl × Sto)} {i : Nat} (h : SemS K (fun env st => match f env st with | some (.fr x, s) => (ownAt env i x).map fun env' => (.nx, env', s) | _ => none) D σ H) : tAsg (SemE K f) (gName i) D σ H := by
  obtain ⟨M, Z, st, env, fl, env', st', r, e, q⟩ := h
  cases hf : f env st with
  | none => simp only [hf] at e; cases e
  | some p =>
    obtain ⟨w, s1⟩ := p
    cases w with
    | d x => simp only [hf] at e; cases e
    | rf x => simp only [hf] at e; cases e
    | fr x =>
      simp only [hf] at e
      obtain ⟨e1, hb, e⟩ := Option.map_eq_some_iff.mp e
      cases e
      obtain ⟨hi, hb⟩ := dec2 (show (if i < env.length then some (env.set i (.ow x)) else none) = some env' from hb)
      subst hb
      refine ⟨M, _, st, env, _, st', r.er, hf, fun a H1 M1 s na so ow => ?_⟩
      have hi' : i < σ.length := by rw [← r.er.len]; exact hi
      have lk : ∀ j, look (env.set i (.ow x)) j = if j = i then .ow x else look env j := fun j => look_set env i j _ hi
      have lv : ∀ j, ((σ.set i (some (.ref a)))[j]?).join = if j = i then some (.ref a) else (σ[j]?).join := fun j => join_set σ i j _ hi'
      have vv : ∀ b, OwV (σ.set i (some (.ref a))) (env.set i (.ow x)) b → (OwV σ env b ∧ b ≠ a) ∨ b = a := fun b ⟨j, y, h1, h2⟩ => by
        rw [lk] at h1
        rw [lv] at h2
        by_cases c : j = i
        · rw [if_pos c] at h2; cases h2; exact .inr rfl
        · rw [if_neg c] at h1 h2
          have hv : OwV σ env b := ⟨j, y, h1, h2⟩
          exact .inl ⟨hv, fun z => by
            obtain ⟨o, e⟩ := r.er.sto.tr b (.inr hv)
            rw [z, na] at e; cases e⟩
      have er1 : ER K M1 (fun b => UZ Z σ env b ∨ b = a) H1 st' (σ.set i (some (.ref a))) (env.set i (.ow x)) := by
        refine ⟨so, by rw [List.length_set, List.length_set]; exact r.er.len, fun j => ?_⟩
        rw [lk, lv]
        by_cases c : j = i
        · rw [if_pos c, if_pos c]; exact ⟨a, rfl, .inr rfl, ow⟩
        · rw [if_neg c, if_neg c]; exact slr_more s r.er.sto.ap r.er.sto.tr na so (r.er.env j)
      refine q M1 H1 _ (SSt.ofStp s so fun b z => ?_) (fun j y hy => ?_) ⟨er1.less (fun b z => ?_) (fun b z => Or.inr z), fun j k b hj hk e1 e2 => ?_, fun b z => ?_⟩
      · obtain ⟨j, y, h1, h2⟩ := z
        rw [lk] at h1
        rw [lv] at h2
        by_cases c : j = i
        · rw [if_pos c] at h2; cases h2; exact .inr na
        · rw [if_neg c] at h1 h2; exact .inl ⟨j, y, h1, h2⟩
      · rw [lk] at hy
        rw [lv]
        by_cases c : j = i
        · rw [if_pos c] at hy; cases hy
        · rw [if_neg c] at hy ⊢; exact ⟨hy, rfl⟩
      · rcases z with z | z
        · exact .inl (.inl z)
        · rcases vv b z with z | z
          · exact .inl (.inr z.1)
          · exact .inr z
      · rw [lk] at hj hk
        rw [lv] at e1 e2
        have out : ∀ l, IsOw (look env l) → (σ[l]?).join = some (.ref a) → False := fun l ⟨y, hy⟩ q => by
          obtain ⟨o, e⟩ := r.er.sto.tr a (.inr ⟨l, y, hy, q⟩)
          rw [na] at e; cases e
        by_cases c : j = i
        · by_cases c' : k = i
          · rw [c, c']
          · rw [if_pos c] at e1; cases e1
            rw [if_neg c'] at hk e2
            exact (out k hk e2).elim
        · by_cases c' : k = i
          · rw [if_pos c'] at e2; cases e2
            rw [if_neg c] at hj e1
            exact (out j hj e1).elim
          · rw [if_neg c] at hj e1
            rw [if_neg c'] at hk e2
            exact r.ds j k b hj hk e1 e2
      · rcases vv b z with z | z
        · exact r.nz b z.1
        · subst z
          intro hz
          obtain ⟨o, e⟩ := r.er.sto.tr b (.inl hz)
          rw [na] at e; cases e
end
end Pi

end
section
set_option Elab.async false
set_option linter.all false
set_option maxRecDepth 100000
set_option maxHeartbeats 1000000
namespace Pi
open PySem PySem.Spec PyProof.Rows L2
section
variable {K : PySem.W.Frag} {M M' M1 M2 : List Addr} {U U' Z W W1 : Addr → Prop} {H H' H1 H2 : Hp} {st st' st1 : Sto} {σ σ' σ1 : L2.St} {env env' env1 : Ev} {D : Ends}
theorem look_lt {i : Nat} (h : look env i ≠ .no) : i < env.length := by
  by_cases c : i < env.length
  · exact c
  · exact absurd (by unfold look; rw [List.getD_eq_getElem?_getD, List.getElem?_eq_none (by omega)]; rfl) h
/-! ### a list is changed no more -/
theorem SRl.froz {i : Nat} {x : PyData} (r : SRl K M Z H st σ env) (hl : look env i = .ow x) : SRl K M Z H st σ (env.set i (.sh x)) ∧ (∀ a, OwW σ (env.set i (.sh x)) a → OwW σ env a) ∧ Lks σ env σ (env.set i (.sh x)) := by
  have hi : i < env.length := look_lt (by rw [hl]; exact fun z => nomatch z)
  have lk : ∀ j, look (env.set i (.sh x)) j = if j = i then .sh x else look env j := fun j => look_set env i j _ hi
  have ne : ∀ j, IsOw (look (env.set i (.sh x)) j) → j ≠ i ∧ look (env.set i (.sh x)) j = look env j := fun j ⟨y, hy⟩ => by
    rw [lk] at hy ⊢
    by_cases c : j = i
    · rw [if_pos c] at hy; rcases hy with hy | hy <;> cases hy
    · rw [if_neg c]; exact ⟨c, rfl⟩
  have sub : Sub σ env σ (env.set i (.sh x)) := fun j hj => ⟨(ne j hj).2, rfl⟩
  have le : ∀ a, UZ Z σ (env.set i (.sh x)) a → UZ Z σ env a := fun a z => z.elim .inl fun z => .inr (sub.v z)
  refine ⟨⟨⟨r.er.sto.less le, by rw [List.length_set]; exact r.er.len, fun j => ?_⟩, fun j k a hj hk e1 e2 => ?_, fun a z => r.nz a (sub.v z)⟩, fun a => sub.w, sub.lks⟩
  · rw [lk]
    have q := r.er.env j
    by_cases c : j = i
    · rw [if_pos c]
      subst c
      rw [hl] at q
      obtain ⟨a, e, u, ow⟩ := q
      refine ⟨_, e, OwAt.rp (fun z => ?_) (ow_less le ow)⟩
      have hv : OwV σ env a := ⟨j, x, .inl hl, e⟩
      rcases z with z | z | z
      · exact r.er.sto.ap a z u
      · exact r.nz a hv z
      · obtain ⟨k, y, h1, h2⟩ := z
        obtain ⟨h3, h4⟩ := ne k ⟨y, h1⟩
        rw [h4] at h1
        exact h3 (r.ds k j a ⟨y, h1⟩ ⟨x, .inl hl⟩ h2 e)
    · rw [if_neg c]
      have lj : look (env.set i (.sh x)) j = look env j := by rw [lk, if_neg c]
      cases h2 : look env j with
      | no => trivial
      | sh y => rw [h2] at q; obtain ⟨v, e, rr⟩ := q; exact ⟨v, e, rp_less le rr⟩
      | ow y => rw [h2] at q; obtain ⟨a, e, u, ow⟩ := q; exact ⟨a, e, .inr ⟨j, y, .inl (lj.trans h2), e⟩, ow_less le ow⟩
      | lk y => rw [h2] at q; obtain ⟨a, e, u, ow⟩ := q; exact ⟨a, e, .inr ⟨j, y, .inr (lj.trans h2), e⟩, ow_less le ow⟩
      | rf n => rw [h2] at q; exact q
  · exact r.ds j k a ((ne j hj).2 ▸ hj) ((ne k hk).2 ▸ hk) e1 e2
theorem SRl.freeze : ∀ (is : List Nat) {env env1 : Ev}, SRl K M Z H st σ env → freeze env is = some env1 → SRl K M Z H st σ env1 ∧ (∀ a, OwW σ env1 a → OwW σ env a) ∧ Lks σ env σ env1
  | [], env, env1, r, e => by cases e; exact ⟨r, fun _ z => z, Lks.refl⟩
  | i :: is, env, env1, r, e => by
    have e : (match look env i with | .ow x => Pi.freeze (env.set i (.sh x)) is | .sh _ => Pi.freeze env is | _ => none) = some env1 := e
    cases hl : look env i with
    | ow x =>
      rw [hl] at e
      obtain ⟨r1, w1, l1⟩ := r.froz hl
      obtain ⟨r2, w2, l2⟩ := SRl.freeze is r1 e
      exact ⟨r2, fun a z => w1 a (w2 a z), l1.trans l2⟩
    | sh x => rw [hl] at e; exact SRl.freeze is r e
    | no => rw [hl] at e; cases e
    | lk x => rw [hl] at e; cases e
    | rf n => rw [hl] at e; cases e
theorem sem_fz {is : List Nat} {f : Ev → Sto → SR} (h : SemS K (fun env st => match freeze env is with | some e1 => f e1 st | none => none) D σ H) : SemS K f D σ H := by
  obtain ⟨M, Z, st, env, fl, env', st', r, e, q⟩ := h
  cases hf : Pi.freeze env is with
  | none => simp only [hf] at e; cases e
  | some e1 =>
    simp only [hf] at e
    obtain ⟨r1, w1, l1⟩ := r.freeze is hf
    exact ⟨M, Z, st, e1, fl, env', st', r1, e, q.go (SSt.refl w1) l1⟩
/-! ### a list is changed -/
theorem SRl.upd {i : Nat} {x y : PyData} {a : Addr} {o : HO} (r : SRl K M Z H st σ env) (hl : look env i = .ow x) (ha : (σ[i]?).join = some (.ref a)) (hx : OwAt K (Bar M (UZ Z σ env)) (L2.upd H a o) (L2.upd H a o) a y) :
    SRl K M Z (L2.upd H a o) st σ (env.set i (.ow y)) ∧ SSt (OwW σ env) M H (OwW σ (env.set i (.ow y))) M (L2.upd H a o) ∧ Lks σ env σ (env.set i (.ow y)) := by
  have hi : i < env.length := look_lt (by rw [hl]; exact fun z => nomatch z)
  have lk : ∀ j, look (env.set i (.ow y)) j = if j = i then .ow y else look env j := fun j => look_set env i j _ hi
  have io : ∀ j, IsOw (look (env.set i (.ow y)) j) → IsOw (look env j) := fun j hj => by
    rw [lk] at hj
    by_cases c : j = i
    · rw [c]; exact ⟨x, .inl hl⟩
    · rw [if_neg c] at hj; exact hj
  have vv : ∀ b, OwV σ (env.set i (.ow y)) b → OwV σ env b := fun b ⟨j, z, h1, h2⟩ => by
    obtain ⟨w, hw⟩ := io j ⟨z, h1⟩
    exact ⟨j, w, hw, h2⟩
  have ww : ∀ b, OwW σ (env.set i (.ow y)) b → OwW σ env b := fun b ⟨j, z, h1, h2⟩ => by
    rw [lk] at h1
    by_cases c : j = i
    · exact ⟨i, x, hl, c ▸ h2⟩
    · rw [if_neg c] at h1; exact ⟨j, z, h1, h2⟩
  have vb : ∀ b, OwV σ env b → OwV σ (env.set i (.ow y)) b := fun b ⟨j, z, h1, h2⟩ => by
    by_cases c : j = i
    · exact ⟨i, y, .inl (by rw [lk, if_pos rfl]), c ▸ h2⟩
    · exact ⟨j, z, by rw [lk, if_neg c]; exact h1, h2⟩
  have hv : OwV σ env a := ⟨i, x, .inl hl, ha⟩
  have u : UZ Z σ env a := .inr hv
  have er1 : ER K M (UZ Z σ env) (L2.upd H a o) st σ (env.set i (.ow y)) := by
    refine ⟨r.er.sto.upd u, by rw [List.length_set]; exact r.er.len, fun j => ?_⟩
    rw [lk]
    by_cases c : j = i
    · rw [if_pos c, c]; exact ⟨a, ha, u, hx⟩
    · rw [if_neg c]
      have q := r.er.env j
      have ow : ∀ {b z}, IsOw (look env j) → (σ[j]?).join = some (.ref b) → OwAt K (Bar M (UZ Z σ env)) H H b z → OwAt K (Bar M (UZ Z σ env)) (L2.upd H a o) (L2.upd H a o) b z := fun {b z} hj e w => w.keep (keepU u) fun o' e' => by
        rw [upd_ne fun (qq : b = a) => c (r.ds j i a hj ⟨x, .inl hl⟩ (by rw [← qq]; exact e) ha)]; exact e'
      cases h2 : look env j with
      | no => trivial
      | sh z => rw [h2] at q; obtain ⟨v, e, rr⟩ := q; exact ⟨v, e, rr.keep (keepU u)⟩
      | ow z => have h3 : IsOw (look env j) := ⟨z, .inl h2⟩; rw [h2] at q; obtain ⟨b, e, u', w⟩ := q; exact ⟨b, e, u', ow h3 e w⟩
      | lk z => have h3 : IsOw (look env j) := ⟨z, .inr h2⟩; rw [h2] at q; obtain ⟨b, e, u', w⟩ := q; exact ⟨b, e, u', ow h3 e w⟩
      | rf n => rw [h2] at q; exact q
  refine ⟨⟨er1.less (fun b z => z.elim .inl fun z => .inr (vv b z)) (fun b z => .inr z), fun j k b hj hk e1 e2 => r.ds j k b (io j hj) (io k hk) e1 e2, fun b z => r.nz b (vv b z)⟩,
    ⟨List.prefix_refl _, fun _ h => .inl h, fun b o' n w e => ?_, fun b z => .inl (ww b z), fun b ⟨o', e⟩ => ?_⟩, fun j z hz => ?_⟩
  · rw [upd_ne fun q => w (by rw [q]; exact ⟨i, x, hl, ha⟩)]; exact e
  · by_cases c : b = a
    · subst c; exact ⟨_, upd_same⟩
    · exact ⟨o', by rw [upd_ne c]; exact e⟩
  · rw [lk] at hz
    by_cases c : j = i
    · rw [if_pos c] at hz; cases hz
    · rw [if_neg c] at hz; exact ⟨hz, rfl⟩
theorem sem_app {f : Ev → Sto → Option (PyData × Sto)} {i : Nat} (h : SemS K (fun env st => match f env st with
    | some (y, s) => (match look env i with
      | .ow (.list xs) => if xs.length < SL then some (.nx, env.set i (.ow (.list (xs ++ [y]))), s) else none
      | _ => none)
    | none => none) D σ H) : tDrop (tBM K "list" rAppend (tVar i) (tCons (SemD K f) tNil)) D σ H := by
  obtain ⟨M, Z, st, env, fl, env', st', r, e, q⟩ := h
  cases hf : f env st with
  | none => simp only [hf] at e; cases e
  | some p =>
    obtain ⟨y, s1⟩ := p
    simp only [hf] at e
    cases hl : look env i with
    | ow z =>
      cases z with
      | list xs =>
        simp only [hl] at e
        obtain ⟨hz, e⟩ : xs.length < SL ∧ some (Fl.nx, env.set i (.ow (.list (xs ++ [y]))), s1) = some (fl, env', st') := by
          split at e
          · exact ⟨‹_›, e⟩
          · cases e
        cases e
        have sl := r.er.env i
        rw [hl] at sl
        obtain ⟨a, ha, u, vs, hv, ra⟩ := sl
        refine ⟨_, join_some ha, Or.inl ⟨rfl, vs, .inl (.inl hv)⟩, ?_⟩
        refine ⟨M, _, st, env, y, _, r.er, hf, fun v H1 M1 s so rv => ?_⟩
        have nM : a ∉ M := fun z => r.er.sto.ap a z u
        have hv1 : H1 a = some (.lst vs) := s.fr a _ nM hv
        have ra1 := ra.step s
        refine ⟨a, vs, v, rfl, rfl, hv1, Nat.lt_of_lt_of_le (by rw [ra.length]; exact hz) (by decide), ?_⟩
        obtain ⟨r2, s2, l2⟩ := (r.step s so).upd (o := .lst (vs ++ [v])) (y := .list (xs ++ [y])) hl ha ⟨_, upd_same, (ra1.append (.one rv)).keep (keepU u)⟩
        exact q _ _ _ ((SSt.ofStp s so fun _ z => .inl z).trans s2) l2 r2
      | none => simp only [hl] at e; cases e
      | bool b => simp only [hl] at e; cases e
      | int b => simp only [hl] at e; cases e
      | str b => simp only [hl] at e; cases e
      | tuple b => simp only [hl] at e; cases e
      | dict b => simp only [hl] at e; cases e
    | no => simp only [hl] at e; cases e
    | sh x => simp only [hl] at e; cases e
    | lk x => simp only [hl] at e; cases e
    | rf n => simp only [hl] at e; cases e
theorem sem_ext {f : Ev → Sto → Option (Vl × Sto)} {i : Nat} (h : SemS K (fun env st => match f env st with
    | some (.fr (.list ys), s) => (match look env i with
      | .ow (.list xs) => if xs.length + ys.length ≤ SL then some (.nx, env.set i (.ow (.list (xs ++ ys))), s) else none
      | _ => none)
    | _ => none) D σ H) : tDrop (tBM K "list" rExtend (tVar i) (tCons (SemE K f) tNil)) D σ H := by
  obtain ⟨M, Z, st, env, fl, env', st', r, e, q⟩ := h
  have hz : ∃ ys s1 xs, f env st = some (.fr (.list ys), s1) ∧ look env i = .ow (.list xs) ∧ xs.length + ys.length ≤ SL ∧ some (Fl.nx, env.set i (.ow (.list (xs ++ ys))), s1) = some (fl, env', st') := by
    simp only [] at e
    split at e
    · split at e
      · split at e
        · exact ⟨_, _, _, ‹_›, ‹_›, ‹_›, e⟩
        · cases e
      · cases e
    · cases e
  obtain ⟨ys, s1, xs, hf, hl, hz, e⟩ := hz
  cases e
  have sl := r.er.env i
  rw [hl] at sl
  obtain ⟨a, ha, u, vs, hv, ra⟩ := sl
  refine ⟨_, join_some ha, Or.inl ⟨rfl, vs, .inl (.inl hv)⟩, ?_⟩
  refine ⟨M, _, st, env, _, _, r.er, hf, fun b H1 M1 s nb so ow => ?_⟩
  obtain ⟨us, hb, rb⟩ := ow
  have nM : a ∉ M := fun z => r.er.sto.ap a z u
  have hv1 : H1 a = some (.lst vs) := s.fr a _ nM hv
  have ra1 := ra.step s
  have so1 : StoOk K M1 (UZ Z σ env) H1 st' := so.less fun c z => .inl z
  have rb1 : RpAll K (Bar M1 (UZ Z σ env)) H1 us ys := rb.keep fun c o nc e => ⟨e, fun z => nc (z.elim .inl fun z => .inr (.inl z))⟩
  refine ⟨a, b, vs, us, rfl, rfl, hv1, hb, by rw [ra.length, rb.length]; exact hz, ?_⟩
  obtain ⟨r2, s2, l2⟩ := (r.step s so1).upd (o := .lst (vs ++ us)) (y := .list (xs ++ ys)) hl ha ⟨_, upd_same, (ra1.append rb1).keep (keepU u)⟩
  exact q _ _ _ ((SSt.ofStp s so1 fun _ z => .inl z).trans s2) l2 r2
theorem RpAll.eraseIdx {B : Addr → Prop} : ∀ (k : Nat) {vs : List V} {ds : List PyData}, RpAll K B H vs ds → RpAll K B H (vs.eraseIdx k) (ds.eraseIdx k)
  | _, _, _, .nil => by simpa using RpAll.nil
  | 0, _, _, .cons h r => by simpa using r
  | k + 1, _, _, .cons h r => by
    rw [List.eraseIdx_cons_succ, List.eraseIdx_cons_succ]
    exact .cons h (RpAll.eraseIdx k r)
/-- an item goes from one list to the other -/
theorem sem_apop {g : Ev → Sto → Option (PyData × Sto)} {i j : Nat} (h : SemS K (fun env st => match g env st with
    | some (kx, s) => (match look env i, look env j, kx with
      | .ow (.list xs), .ow (.list ys), .int n => if i ≠ j ∧ xs.length < SL ∧ -(2 ^ 62) ≤ n ∧ n < 2 ^ 62 then (L2.ixN ys.length n).bind fun m => (ys[m]?).bind fun y =>
          some (.nx, (env.set j (.ow (.list (ys.eraseIdx m)))).set i (.ow (.list (xs ++ [y]))), s) else none
      | _, _, _ => none)
    | none => none) D σ H) : tDrop (tBM K "list" rAppend (tVar i) (tCons (tBM K "list" rPopAt (tVar j) (tCons (SemB K g) tNil)) tNil)) D σ H := by
  obtain ⟨M, Z, st, env, fl, env', st', r, e, q⟩ := h
  have hz : ∃ n s1 xs ys m y, g env st = some (.int n, s1) ∧ look env i = .ow (.list xs) ∧ look env j = .ow (.list ys) ∧ i ≠ j ∧ xs.length < SL ∧ (-(2 ^ 62) ≤ n ∧ n < 2 ^ 62) ∧ L2.ixN ys.length n = some m ∧ ys[m]? = some y ∧
      some (Fl.nx, (env.set j (.ow (.list (ys.eraseIdx m)))).set i (.ow (.list (xs ++ [y]))), s1) = some (fl, env', st') := by
    simp only [] at e
    split at e
    · split at e
      · split at e
        · rename_i h5
          obtain ⟨m, e1, e⟩ := Option.bind_eq_some_iff.mp e
          obtain ⟨y, e2, e⟩ := Option.bind_eq_some_iff.mp e
          exact ⟨_, _, _, _, m, y, ‹_›, ‹_›, ‹_›, h5.1, h5.2.1, h5.2.2, e1, e2, e⟩
        · cases e
      · cases e
    · cases e
  obtain ⟨n, s1, xs, ys, m, y, hg, hli, hlj, hij, hxs, hn, hm, hy, e⟩ := hz
  cases e
  have sli := r.er.env i
  rw [hli] at sli
  obtain ⟨a, ha, ua, vs, hv, ra⟩ := sli
  have slj := r.er.env j
  rw [hlj] at slj
  obtain ⟨b, hb, ub, us, hu, rb⟩ := slj
  refine ⟨_, join_some ha, Or.inl ⟨rfl, vs, .inl (.inl hv)⟩, ?_⟩
  refine ⟨_, join_some hb, Or.inl ⟨rfl, us, .inl (.inl hu)⟩, ?_⟩
  refine ⟨M, _, st, env, .int n, _, r.er, hg, fun kv H1 M1 s so rv => ?_⟩
  cases rv.w.int
  have nMb : b ∉ M := fun z => r.er.sto.ap b z ub
  have hu1 : H1 b = some (.lst us) := s.fr b _ nMb hu
  have rb1 := rb.step s
  obtain ⟨y', e1, e2⟩ := rb1.get hy
  obtain ⟨q1, q2, q3, q4⟩ := ixN_seq hm
  refine ⟨b, us, n, m, y', rfl, rfl, hu1, by omega, by omega, by rw [rb.length]; exact q1, e1, ?_⟩
  obtain ⟨r2, s2, l2⟩ := (r.step s so).upd (o := .lst (us.eraseIdx m)) (y := .list (ys.eraseIdx m)) hlj hb ⟨_, upd_same, (rb1.eraseIdx m).keep (keepU ub)⟩
  have hlj' : j < env.length := look_lt (by rw [hlj]; exact fun z => nomatch z)
  have hli2 : look (env.set j (.ow (.list (ys.eraseIdx m)))) i = .ow (.list xs) := by rw [look_set env j i _ hlj', if_neg hij]; exact hli
  have sl2 := r2.er.env i
  rw [hli2] at sl2
  obtain ⟨a2, ha2, ua2, vs2, hv2, ra2⟩ := sl2
  have hl2 : vs2.length < 100000 ∨ True := .inr trivial
  have eaa : a2 = a := by rw [ha] at ha2; cases ha2; rfl
  subst eaa
  have hab : a2 ≠ b := fun z => by
    subst z
    exact hij (r.ds i j a2 ⟨_, .inl hli⟩ ⟨_, .inl hlj⟩ ha hb)
  have hy2 : Rp K (Bar M1 (UZ Z σ (env.set j (.ow (.list (ys.eraseIdx m)))))) (L2.upd H1 b (.lst (us.eraseIdx m))) y' y := by
    refine (e2.keep (keepU ub)).keep fun c o nc e => ⟨e, fun z => nc (z.elim .inl fun z => .inr (z.elim .inl fun z => .inr ?_))⟩
    obtain ⟨k, w, h1, h2⟩ := z
    rw [look_set env j k _ hlj'] at h1
    by_cases c' : k = j
    · exact ⟨j, _, .inl hlj, by rw [← c']; exact h2⟩
    · rw [if_neg c'] at h1; exact ⟨k, w, h1, h2⟩
  refine ⟨a2, vs2, y', rfl, rfl, hv2, Nat.lt_of_lt_of_le (by rw [ra2.length]; exact hxs) (by decide), ?_⟩
  obtain ⟨r3, s3, l3⟩ := r2.upd (o := .lst (vs2 ++ [y'])) (y := .list (xs ++ [y])) hli2 ha ⟨_, upd_same, (ra2.append (.one hy2)).keep (keepU ua2)⟩
  exact q _ _ _ (((SSt.ofStp s so fun _ z => .inl z).trans s2).trans s3) (l2.trans l3) r3
/-! ### two names at once -/
/-- a new list that waits for its name -/
def pend (sl : Slot) (v : V) (b : Addr) : Prop := (∃ x, sl = .ow x) ∧ v = .ref b
theorem slr_moreP {P : Addr → Prop} (p : Stp M H M' H') (ap : ∀ a ∈ M, ¬ U a) (np : ∀ a, P a → H a = none) {sl : Slot} {o : Option V} (h : SltR K M U H sl o) : SltR K M' (fun b => U b ∨ P b) H' sl o := by
  have kp : Keep (Bar M U) (Bar M' fun b => U b ∨ P b) H H' := fun b o nb e => ⟨(p.keep b o nb e).1, fun z => by
    rcases z with z | z | z
    · exact (p.keep b o nb e).2 (.inl z)
    · exact (p.keep b o nb e).2 (.inr z)
    · rw [np b z] at e; cases e⟩
  have ow : ∀ {b x}, U b → OwAt K (Bar M U) H H b x → OwAt K (Bar M' fun b => U b ∨ P b) H' H' b x := fun {b x} u q => q.keep kp fun o e => p.fr b o (fun z => ap b z u) e
  cases sl with
  | no => trivial
  | sh x => obtain ⟨v, e, r⟩ := h; exact ⟨v, e, r.keep kp⟩
  | ow x => obtain ⟨b, e, u, q⟩ := h; exact ⟨b, e, .inl u, ow u q⟩
  | lk x => obtain ⟨b, e, u, q⟩ := h; exact ⟨b, e, .inl u, ow u q⟩
  | rf n =>
    obtain ⟨b, e, q⟩ := h
    refine ⟨b, ?_, q⟩
    obtain ⟨t, rfl⟩ := p.pre
    rw [List.getElem?_append_left (List.getElem?_eq_some_iff.mp e).1]
    exact e
theorem sltr_less {U' : Addr → Prop} {sl : Slot} {o : Option V} (h : SltR K M U H sl o) (g : ∀ b, U' b → U b) (hw : ∀ a x, (sl = .ow x ∨ sl = .lk x) → o = some (.ref a) → U' a) : SltR K M U' H sl o := by
  cases sl with
  | no => trivial
  | sh x => obtain ⟨v, e, r⟩ := h; exact ⟨v, e, rp_less g r⟩
  | ow x => obtain ⟨b, e, u, q⟩ := h; exact ⟨b, e, hw b x (.inl rfl) e, ow_less g q⟩
  | lk x => obtain ⟨b, e, u, q⟩ := h; exact ⟨b, e, hw b x (.inr rfl) e, ow_less g q⟩
  | rf n => exact h
/-- what waits goes to its name -/
theorem SRl.put {sl : Slot} {v : V} {i : Nat} (hs : (∃ x, sl = .sh x) ∨ ∃ x, sl = .ow x) (r : SRl K M (fun b => Z b ∨ pend sl v b) H st σ env) (hi : i < env.length) (h : SltR K M (UZ (fun b => Z b ∨ pend sl v b) σ env) H sl (some v)) (hz : ∀ b, pend sl v b → ¬ Z b) :
    SRl K M Z H st (σ.set i (some v)) (env.set i sl) ∧ (∀ b, OwW (σ.set i (some v)) (env.set i sl) b → OwW σ env b ∨ pend sl v b) ∧ Lks σ env (σ.set i (some v)) (env.set i sl) := by
  have hi' : i < σ.length := by rw [← r.er.len]; exact hi
  have lk : ∀ j, look (env.set i sl) j = if j = i then sl else look env j := fun j => look_set env i j _ hi
  have lv : ∀ j, ((σ.set i (some v))[j]?).join = if j = i then some v else (σ[j]?).join := fun j => join_set σ i j _ hi'
  have pn : ∀ b x, (sl = .ow x ∨ sl = .lk x) → some v = some (V.ref b) → pend sl v b := fun b x hx e => by
    cases e
    rcases hx with hx | hx
    · exact ⟨⟨x, hx⟩, rfl⟩
    · rcases hs with ⟨y, hy⟩ | ⟨y, hy⟩ <;> (rw [hy] at hx; cases hx)
  have vv : ∀ b, OwV (σ.set i (some v)) (env.set i sl) b → OwV σ env b ∨ pend sl v b := fun b ⟨j, y, h1, h2⟩ => by
    rw [lk] at h1
    rw [lv] at h2
    by_cases c : j = i
    · rw [if_pos c] at h1 h2; exact .inr (pn b y h1 h2)
    · rw [if_neg c] at h1 h2; exact .inl ⟨j, y, h1, h2⟩
  have er1 : ER K M (UZ (fun b => Z b ∨ pend sl v b) σ env) H st (σ.set i (some v)) (env.set i sl) := by
    refine ⟨r.er.sto, by rw [List.length_set, List.length_set]; exact r.er.len, fun j => ?_⟩
    rw [lk, lv]
    by_cases c : j = i
    · rw [if_pos c, if_pos c]; exact h
    · rw [if_neg c, if_neg c]; exact r.er.env j
  refine ⟨⟨er1.less (fun b z => ?_) fun b z => Or.inr z, fun j k b hj hk e1 e2 => ?_, fun b z => ?_⟩, fun b z => ?_, fun j y hy => ?_⟩
  · rcases z with z | z
    · exact .inl (.inl z)
    · rcases vv b z with z | z
      · exact .inr z
      · exact .inl (.inr z)
  · rw [lk] at hj hk
    rw [lv] at e1 e2
    have out : ∀ l, IsOw (look env l) → (σ[l]?).join = some (.ref b) → pend sl v b → False := fun l ⟨y, hy⟩ q p => r.nz b ⟨l, y, hy, q⟩ (.inr p)
    by_cases c : j = i
    · by_cases c' : k = i
      · rw [c, c']
      · rw [if_pos c] at hj e1
        rw [if_neg c'] at hk e2
        obtain ⟨y, hy⟩ := hj
        exact (out k hk e2 (pn b y hy e1)).elim
    · by_cases c' : k = i
      · rw [if_pos c'] at hk e2
        rw [if_neg c] at hj e1
        obtain ⟨y, hy⟩ := hk
        exact (out j hj e1 (pn b y hy e2)).elim
      · rw [if_neg c] at hj e1
        rw [if_neg c'] at hk e2
        exact r.ds j k b hj hk e1 e2
  · rcases vv b z with z | z
    · exact fun hb => r.nz b z (.inl hb)
    · exact hz b z
  · obtain ⟨j, y, h1, h2⟩ := z
    rw [lk] at h1
    rw [lv] at h2
    by_cases c : j = i
    · rw [if_pos c] at h1 h2; exact .inr (pn b y (.inl h1) h2)
    · rw [if_neg c] at h1 h2; exact .inl ⟨j, y, h1, h2⟩
  · rw [lk] at hy
    rw [lv]
    by_cases c : j = i
    · rw [if_pos c] at hy
      rcases hs with ⟨z, hz'⟩ | ⟨z, hz'⟩ <;> (rw [hz'] at hy; cases hy)
    · rw [if_neg c] at hy ⊢; exact ⟨hy, rfl⟩
theorem slotP_kind {o : Bool} {w : Vl} {sl : Slot} (h : slotP o w = some sl) : (∃ x, sl = .sh x) ∨ ∃ x, sl = .ow x := by
  cases o with
  | true => cases w <;> first | (cases h; exact .inr ⟨_, rfl⟩) | cases h
  | false => cases w <;> first | (cases h; exact .inl ⟨_, rfl⟩) | cases h
/-- a value that waits -/
theorem EPost.wait {o : Bool} {w : Vl} {sl : Slot} {Q : VK} (tr : ∀ a, U a → ∃ o, H a = some o) (h : slotP o w = some sl)
    (q : ∀ v H' M', Stp M H M' H' → (∀ b, pend sl v b → H b = none) → StoOk K M' (fun b => U b ∨ pend sl v b) H' st' → SltR K M' (fun b => U b ∨ pend sl v b) H' sl (some v) → Q v H') : EPost K M U H st' w Q := by
  cases o with
  | true =>
    cases w with
    | fr x =>
      cases h
      intro a H' M' s na so ow
      have e : ∀ b, pend (.ow x) (.ref a) b ↔ b = a := fun b => ⟨fun ⟨_, z⟩ => (by cases z; rfl), fun z => ⟨⟨x, rfl⟩, by rw [z]⟩⟩
      refine q _ H' M' s (fun b z => by rw [(e b).mp z]; exact na) (so.less fun b z => z.elim .inl fun z => .inr ((e b).mp z)) ⟨a, rfl, .inr ((e a).mpr rfl), ?_⟩
      exact ow_less (fun b z => z.elim .inl fun z => .inr ((e b).mp z)) ow
    | d x => cases h
    | rf n => cases h
  | false =>
    obtain ⟨x, hx, e⟩ := Option.map_eq_some_iff.mp (show w.toD.map Slot.sh = some sl by cases w <;> exact h)
    subst e
    have np : ∀ v b, ¬ pend (.sh x) v b := fun v b ⟨⟨y, z⟩, _⟩ => (by cases z)
    refine EPost.toD tr hx fun v H' M' s so rv => q v H' M' s (fun b z => (np _ _ z).elim) (so.less fun b z => z.elim id fun z => (np _ _ z).elim) ⟨v, rfl, rp_less (fun b z => z.elim id fun z => (np _ _ z).elim) rv⟩
theorem sem_par {f g : Ev → Sto → Option (Vl × Sto)} {i j : Nat} {oi oj : Bool} (h : SemS K (fun env st => match f env st with
    | some (w, s) => (match g env s with
      | some (u, s2) => (match slotP oi w, slotP oj u with
        | some a, some b => if i ≠ j ∧ i < env.length ∧ j < env.length then some (.nx, (env.set i a).set j b, s2) else none
        | _, _ => none)
      | none => none)
    | none => none) D σ H) : SemE K f σ H fun v H1 => SemE K g σ H1 fun w H2 => D.nx ((σ.set i (some v)).set j (some w)) H2 := by
  obtain ⟨M, Z, st, env, fl, env', st', r, e, q⟩ := h
  have hz : ∃ w s u s2 a b, f env st = some (w, s) ∧ g env s = some (u, s2) ∧ slotP oi w = some a ∧ slotP oj u = some b ∧ i ≠ j ∧ i < env.length ∧ j < env.length ∧ some (Fl.nx, (env.set i a).set j b, s2) = some (fl, env', st') := by
    simp only [] at e
    split at e
    · split at e
      · split at e
        · split at e
          · rename_i h5
            exact ⟨_, _, _, _, _, _, ‹_›, ‹_›, ‹_›, ‹_›, h5.1, h5.2.1, h5.2.2, e⟩
          · cases e
        · cases e
      · cases e
    · cases e
  obtain ⟨w, s, u, s2, sa, sb, hf, hg, ha, hb, hij, hi, hj, e⟩ := hz
  cases e
  refine ⟨M, _, st, env, w, s, r.er, hf, EPost.wait r.er.sto.tr ha fun v H1 M1 p np so hv => ?_⟩
  -- behind the first
  have eq1 : ∀ b, UZ (fun b => Z b ∨ pend sa v b) σ env b ↔ (UZ Z σ env b ∨ pend sa v b) := fun b => ⟨fun z => by
    rcases z with (z | z) | z
    · exact .inl (.inl z)
    · exact .inr z
    · exact .inl (.inr z), fun z => by
    rcases z with (z | z) | z
    · exact .inl (.inl z)
    · exact .inr z
    · exact .inl (.inr z)⟩
  have er1 : ER K M1 (fun b => UZ Z σ env b ∨ pend sa v b) H1 s σ env := ⟨so, r.er.len, fun k => slr_moreP p r.er.sto.ap np (r.er.env k)⟩
  have r1 : SRl K M1 (fun b => Z b ∨ pend sa v b) H1 s σ env := ⟨er1.less (fun b z => (eq1 b).mp z) fun b z => .inr z, r.ds, fun b z hz => hz.elim (r.nz b z) fun hz => by
    obtain ⟨o, e⟩ := r.er.sto.tr b (.inr z)
    rw [np b hz] at e; cases e⟩
  have hv1 : SltR K M1 (UZ (fun b => Z b ∨ pend sa v b) σ env) H1 sa (some v) := sltr_less hv (fun b z => (eq1 b).mp z) fun a x hx e => by
    cases e
    refine (eq1 a).mpr (.inr ?_)
    rcases slotP_kind ha with ⟨y, hy⟩ | ⟨y, hy⟩
    · subst hy; rcases hx with hx | hx <;> cases hx
    · exact ⟨⟨y, hy⟩, rfl⟩
  refine ⟨M1, _, s, env, u, st', r1.er, hg, EPost.wait r1.er.sto.tr hb fun v2 H2 M2 p2 np2 so2 hv2 => ?_⟩
  have eq2 : ∀ b, UZ (fun b => (Z b ∨ pend sa v b) ∨ pend sb v2 b) σ env b ↔ (UZ (fun b => Z b ∨ pend sa v b) σ env b ∨ pend sb v2 b) := fun b => ⟨fun z => by
    rcases z with (z | z) | z
    · exact .inl (.inl z)
    · exact .inr z
    · exact .inl (.inr z), fun z => by
    rcases z with (z | z) | z
    · exact .inl (.inl z)
    · exact .inr z
    · exact .inl (.inr z)⟩
  have er2 : ER K M2 (fun b => UZ (fun b => Z b ∨ pend sa v b) σ env b ∨ pend sb v2 b) H2 st' σ env := ⟨so2, r1.er.len, fun k => slr_moreP p2 r1.er.sto.ap np2 (r1.er.env k)⟩
  have r2 : SRl K M2 (fun b => (Z b ∨ pend sa v b) ∨ pend sb v2 b) H2 st' σ env := ⟨er2.less (fun b z => (eq2 b).mp z) fun b z => .inr z, r.ds, fun b z hz => hz.elim (r1.nz b z) fun hz => by
    obtain ⟨o, e⟩ := r1.er.sto.tr b (.inr z)
    rw [np2 b hz] at e; cases e⟩
  have hv2' : SltR K M2 (UZ (fun b => (Z b ∨ pend sa v b) ∨ pend sb v2 b) σ env) H2 sb (some v2) := sltr_less hv2 (fun b z => (eq2 b).mp z) fun a x hx e => by
    cases e
    refine (eq2 a).mpr (.inr ?_)
    rcases slotP_kind hb with ⟨y, hy⟩ | ⟨y, hy⟩
    · subst hy; rcases hx with hx | hx <;> cases hx
    · exact ⟨⟨y, hy⟩, rfl⟩
  -- the second goes to its name
  obtain ⟨r3, w3, l3⟩ := r2.put (slotP_kind hb) hj hv2' (fun b z hz => by
    have hb' := np2 b z
    rcases hz with hz | hz
    · obtain ⟨o, e⟩ := r1.er.sto.tr b (.inl (.inl hz))
      rw [hb'] at e; cases e
    · obtain ⟨o, e⟩ := r1.er.sto.tr b (.inl (.inr hz))
      rw [hb'] at e; cases e)
  have hv3 : SltR K M2 (UZ (fun b => Z b ∨ pend sa v b) (σ.set j (some v2)) (env.set j sb)) H2 sa (some v) := by
    have h0 := slr_moreP (P := pend sb v2) p2 r1.er.sto.ap np2 hv1
    refine sltr_less h0 (fun b z => ?_) fun a x hx e => ?_
    · rcases z with z | ⟨k, y, h1, h2⟩
      · exact .inl (.inl z)
      · rw [look_set env j k _ hj] at h1
        rw [join_set σ j k _ (by rw [← r.er.len]; exact hj)] at h2
        by_cases c : k = j
        · rw [if_pos c] at h1 h2
          refine .inr ?_
          cases h2
          rcases slotP_kind hb with ⟨y', hy⟩ | ⟨y', hy⟩
          · subst hy; rcases h1 with h1 | h1 <;> cases h1
          · exact ⟨⟨y', hy⟩, rfl⟩
        · rw [if_neg c] at h1 h2; exact .inl (.inr ⟨k, y, h1, h2⟩)
    · cases e
      refine .inl (.inr ?_)
      rcases slotP_kind ha with ⟨y, hy⟩ | ⟨y, hy⟩
      · subst hy; rcases hx with hx | hx <;> cases hx
      · exact ⟨⟨y, hy⟩, rfl⟩
  obtain ⟨r4, w4, l4⟩ := r3.put (i := i) (slotP_kind ha) (by rw [List.length_set]; exact hi) hv3 (fun b z hz => by
    obtain ⟨o, e⟩ := r.er.sto.tr b (.inl hz)
    rw [np b z] at e; cases e)
  have eσ : (σ.set i (some v)).set j (some v2) = (σ.set j (some v2)).set i (some v) := List.set_comm _ _ hij
  have eE : (env.set i sa).set j sb = (env.set j sb).set i sa := List.set_comm _ _ hij
  rw [eσ]
  rw [eE] at q
  have st1 : Stp M H M2 H2 := p.trans p2
  refine q M2 H2 _ (SSt.ofStp st1 so2 fun b z => ?_) (l3.trans l4) r4
  rcases w4 b z with z | z
  · rcases w3 b z with z | z
    · exact .inl z
    · refine .inr (p.none_of (fun hm => ?_) (np2 b z))
      obtain ⟨o, e⟩ := r1.er.sto.tracked b (.inl (p.mem hm))
      rw [np2 b z] at e; cases e
  · exact .inr (np b z)
end
end Pi

end
section
set_option Elab.async false
set_option linter.all false
set_option maxRecDepth 100000
set_option maxHeartbeats 1000000
namespace Pi
open PySem PySem.Spec PyProof.Rows L2
section
variable {K : PySem.W.Frag} {M M' M1 M2 : List Addr} {U U' Z W W1 : Addr → Prop} {H H' H1 H2 : Hp} {st st' st1 : Sto} {σ σ' σ1 : L2.St} {env env' env1 : Ev} {D : Ends}
/-! ### name[k] = e -/
theorem setNth_ok {xs ys : List PyData} {k y : PyData} (h : setNth xs k y = some ys) : ∃ i j, k = .int i ∧ ixN xs.length i = some j ∧ ys = xs.set j y := by
  cases k with
  | int i =>
    obtain ⟨j, h1, h2⟩ := Option.map_eq_some_iff.mp (show (L2.ixN xs.length i).map (fun j => xs.set j y) = some ys from h)
    exact ⟨i, j, rfl, h1, h2.symm⟩
  | none => cases h
  | bool b => cases h
  | str b => cases h
  | list b => cases h
  | tuple b => cases h
  | dict b => cases h
/-- one box is written -/
theorem SRl.box {n : Nat} {xs ys : List PyData} {a : Addr} {us : List V} (r : SRl K M Z H st σ env) (ha : M[n]? = some a) (hx : RpAll K (Bar M (UZ Z σ env)) H us ys) :
    SRl K M Z (L2.upd H a (.lst us)) (st.set n ys) σ env ∧ SSt (OwW σ env) M H (OwW σ env) M (L2.upd H a (.lst us)) := by
  have hm : a ∈ M := List.mem_of_getElem? ha
  have hn : n < M.length := (List.getElem?_eq_some_iff.mp ha).1
  have kp : Keep (Bar M (UZ Z σ env)) (Bar M (UZ Z σ env)) H (L2.upd H a (.lst us)) := fun b o nb e => ⟨by rw [upd_ne fun q => nb (.inl (by rw [q]; exact hm))]; exact e, nb⟩
  have so := r.er.sto
  have ne : ∀ b, UZ Z σ env b → b ≠ a := fun b u q => so.ap a hm (q ▸ u)
  refine ⟨⟨⟨⟨by rw [List.length_set]; exact so.len, so.nd, so.ap, fun m zs e => ?_, fun b u => ?_⟩, r.er.len, fun i => ?_⟩, r.ds, r.nz⟩, List.prefix_refl _, fun _ h => .inl h, fun b o nb _ e => ?_, fun _ z => .inl z, fun b ⟨o, e⟩ => ?_⟩
  · rw [List.getElem?_set] at e
    by_cases c : n = m
    · subst c
      rw [if_pos rfl] at e
      split at e
      · cases e; exact ⟨a, us, ha, upd_same, hx.keep kp⟩
      · cases e
    · rw [if_neg c] at e
      obtain ⟨b, vs, h1, h2, h3⟩ := so.box m zs e
      refine ⟨b, vs, h1, ?_, h3.keep kp⟩
      rw [upd_ne fun q => ?_]
      · exact h2
      · subst q
        exact c ((List.getElem?_inj hn so.nd).mp (ha.trans h1.symm))
  · obtain ⟨o, e⟩ := so.tr b u
    exact ⟨o, by rw [upd_ne (ne b u)]; exact e⟩
  · have q := r.er.env i
    have ow : ∀ {b z}, UZ Z σ env b → OwAt K (Bar M (UZ Z σ env)) H H b z → OwAt K (Bar M (UZ Z σ env)) (L2.upd H a (.lst us)) (L2.upd H a (.lst us)) b z := fun {b z} u w => w.keep kp fun o e => by rw [upd_ne (ne b u)]; exact e
    cases h2 : look env i with
    | no => trivial
    | sh z => rw [h2] at q; obtain ⟨v, e, rr⟩ := q; exact ⟨v, e, rr.keep kp⟩
    | ow z => rw [h2] at q; obtain ⟨b, e, u', w⟩ := q; exact ⟨b, e, u', ow u' w⟩
    | lk z => rw [h2] at q; obtain ⟨b, e, u', w⟩ := q; exact ⟨b, e, u', ow u' w⟩
    | rf n => rw [h2] at q; exact q
  · rw [upd_ne fun q => nb (by rw [q]; exact hm)]; exact e
  · by_cases c : b = a
    · subst c; exact ⟨_, upd_same⟩
    · exact ⟨o, by rw [upd_ne c]; exact e⟩
def rSetLD : V → V → V → Hp → (Hp → Prop) → Prop := fun o i v H Q => rSetL o i v H Q ∨ ∃ a H', o = .ref a ∧ DPut H a i v H' ∧ Q H'
theorem set_ld {X : Cx} (hu : X.A.units + 1 < cLine) : PSet X rSetLD := fun pins s σ H o i v ov iv u Q I ro ri rv h => by
  rcases h with h | ⟨a, H', rfl, g, q⟩
  · exact set_list pins s σ H o i v ov iv u Q I ro ri rv h
  · obtain rfl : ov = Value.ref a := ro
    exact d_setItem hu I g ri rv fun s' I' => ⟨H', I', q⟩
theorem sem_stix {f : Ev → Sto → Option (PyData × Sto)} {g : Ev → Sto → Option (PyData × Sto)} {i : Nat} (h : SemS K (fun env st => match f env st with
    | some (y, s) => (match g env s with
      | some (kx, s1) => (match look env i with
        | .ow (.list xs) => (setNth xs kx y).bind fun ys => some (.nx, env.set i (.ow (.list ys)), s1)
        | .ow (.dict ds) => if (keyD kx && decide (ds.length < SL)) = true then (dents kx ds).map fun es => (.nx, env.set i (.ow (.dict (dput kx y es))), s1) else none
        | .rf n => (s1[n]?).bind fun xs => (setNth xs kx y).bind fun ys => some (.nx, env, s1.set n ys)
        | _ => none)
      | none => none)
    | none => none) D σ H) : tAsg (SemD K f) (gSub (tVar i) (SemB K g) rSetLD) D σ H := by
  obtain ⟨M, Z, st, env, fl, env', st', r, e, q⟩ := h
  have hz : ∃ y s kx s1, f env st = some (y, s) ∧ g env s = some (kx, s1) ∧ ((∃ xs ys, look env i = .ow (.list xs) ∧ setNth xs kx y = some ys ∧ fl = .nx ∧ env' = env.set i (.ow (.list ys)) ∧ st' = s1) ∨
      (∃ ds es, look env i = .ow (.dict ds) ∧ keyD kx = true ∧ ds.length < SL ∧ dents kx ds = some es ∧ fl = .nx ∧ env' = env.set i (.ow (.dict (dput kx y es))) ∧ st' = s1) ∨
      ∃ n xs ys, look env i = .rf n ∧ s1[n]? = some xs ∧ setNth xs kx y = some ys ∧ fl = .nx ∧ env' = env ∧ st' = s1.set n ys) := by
    simp only [] at e
    split at e
    · split at e
      · split at e
        · obtain ⟨ys, h1, e⟩ := Option.bind_eq_some_iff.mp e
          cases e
          exact ⟨_, _, _, _, ‹_›, ‹_›, .inl ⟨_, _, ‹_›, h1, rfl, rfl, rfl⟩⟩
        · split at e
          · rename_i hk
            rw [Bool.and_eq_true, decide_eq_true_eq] at hk
            obtain ⟨es, h1, e⟩ := Option.map_eq_some_iff.mp e
            cases e
            exact ⟨_, _, _, _, ‹_›, ‹_›, .inr (.inl ⟨_, es, ‹_›, hk.1, hk.2, h1, rfl, rfl, rfl⟩)⟩
          · cases e
        · obtain ⟨xs, h0, e⟩ := Option.bind_eq_some_iff.mp e
          obtain ⟨ys, h1, e⟩ := Option.bind_eq_some_iff.mp e
          cases e
          exact ⟨_, _, _, _, ‹_›, ‹_›, .inr (.inr ⟨_, _, _, ‹_›, h0, h1, rfl, rfl, rfl⟩)⟩
        · cases e
      · cases e
    · cases e
  obtain ⟨y, s0, kx, s1, hf, hg, hz⟩ := hz
  refine ⟨M, _, st, env, y, s0, r.er, hf, fun v H1 M1 s so rv => ?_⟩
  have sl := r.er.env i
  rcases hz with ⟨xs, ys, hl, hs, rfl, rfl, rfl⟩ | ⟨ds, es, hl, hk, hlen, hd, rfl, rfl, rfl⟩ | ⟨n, xs, ys, hl, hb, hs, rfl, rfl, rfl⟩
  · rw [hl] at sl
    obtain ⟨a, ha, u, vs, hv, ra⟩ := sl
    obtain ⟨kk, j, rfl, hj, rfl⟩ := setNth_ok hs
    refine ⟨_, join_some ha, M1, _, s0, env, _, _, r.er.step s so, hg, fun kv H2 M2 t so2 rk => ?_⟩
    cases rk.w.int
    have nM : a ∉ M := fun z => r.er.sto.ap a z u
    have st2 := s.trans t
    have hv2 : H2 a = some (.lst vs) := st2.fr a _ nM hv
    have ra2 := ra.step st2
    refine .inl ⟨a, vs, kk, j, rfl, rfl, hv2, by rw [ra.length]; exact hj, ?_⟩
    obtain ⟨r2, s2, l2⟩ := (r.step st2 so2).upd (o := .lst (vs.set j v)) (y := .list (xs.set j y)) hl ha ⟨_, upd_same, (RpAll.set (rv.step t) j ra2).keep (keepU u)⟩
    exact q _ _ _ ((SSt.ofStp st2 so2 fun _ z => .inl z).trans s2) l2 r2
  · rw [hl] at sl
    obtain ⟨a, ha, u, hv⟩ := sl
    rcases hv with ⟨kvs, hv, ra⟩ | ⟨kvs, es', rfl, hv, ra⟩
    · obtain ⟨rfl, _⟩ := dents_k ra hd
      obtain ⟨k', rfl⟩ := of_keyD hk
      refine ⟨_, join_some ha, M1, _, s0, env, _, _, r.er.step s so, hg, fun kv H2 M2 t so2 rk => ?_⟩
      have ek : kv = kV k' := by
        rcases k' with i' | z
        · exact rk.w.int
        · exact rk.w.str
      subst ek
      have nM : a ∉ M := fun z => r.er.sto.ap a z u
      have st2 := s.trans t
      have hv2 : H2 a = some (.dK kvs) := st2.fr a _ nM hv
      have ra2 := ra.keep st2.keep
      refine .inr ⟨a, _, rfl, DPut.k hv2 (Nat.lt_of_lt_of_le (by rw [ra.len]; exact hlen) (by decide)), ?_⟩
      obtain ⟨r2, s2, l2⟩ := (r.step st2 so2).upd (o := .dK (putK kvs k' v)) (y := .dict (dput (kD k') y es)) hl ha (.inl ⟨_, upd_same, (put_k k' ra2 (rv.step t)).keep (keepU u)⟩)
      exact q _ _ _ ((SSt.ofStp st2 so2 fun _ z => .inl z).trans s2) l2 r2
    · obtain ⟨_, ht⟩ := dents_t hd
      cases kx <;> first | (cases hk; done) | (cases ht; done)
  · rw [hl] at sl
    obtain ⟨a, ha, hv⟩ := sl
    obtain ⟨kk, j, rfl, hj, rfl⟩ := setNth_ok hs
    refine ⟨_, join_some hv, M1, _, s0, env', _, _, r.er.step s so, hg, fun kv H2 M2 t so2 rk => ?_⟩
    cases rk.w.int
    have st2 := s.trans t
    have ha2 : M2[n]? = some a := by
      obtain ⟨w, rfl⟩ := st2.pre
      rw [List.getElem?_append_left (List.getElem?_eq_some_iff.mp ha).1]
      exact ha
    obtain ⟨b, vs, h1, h2, h3⟩ := so2.box n xs hb
    rw [ha2] at h1; cases h1
    refine .inl ⟨a, vs, kk, j, rfl, rfl, h2, by rw [h3.length]; exact hj, ?_⟩
    obtain ⟨r2, s2⟩ := (r.step st2 so2).box (xs := xs) (ys := xs.set j y) ha2 (RpAll.set (rv.step t) j h3)
    exact q _ _ _ ((SSt.ofStp st2 so2 fun _ z => .inl z).trans s2) Lks.refl r2
/-! ### name[a, b] = e -/
theorem sem_dputT {f : Ev → Sto → Option (PyData × Sto)} {g : Ev → Sto → Option (List PyData × Sto)} {i : Nat} (h : SemS K (fun env st => match f env st with
    | some (y, s) => (match g env s with
      | some (zs, s1) => (match look env i with
        | .ow (.dict ds) => if (tkeyD (.tuple zs) && decide (ds.length < SL) && decide (zs.length ≤ SL)) = true then (dents (.tuple zs) ds).map fun es => (.nx, env.set i (.ow (.dict ((.tuple [], .none) :: dput (.tuple zs) y es))), s1) else none
        | _ => none)
      | none => none)
    | none => none) D σ H) : tAsg (SemD K f) (gSub (tVar i) (tTup (SemL K g)) rSetLD) D σ H := by
  obtain ⟨M, Z, st, env, fl, env', st', r, e, q⟩ := h
  have hz : ∃ y s zs s1 ds es, f env st = some (y, s) ∧ g env s = some (zs, s1) ∧ look env i = .ow (.dict ds) ∧ tkeyD (.tuple zs) = true ∧ ds.length < SL ∧ zs.length ≤ SL ∧ dents (.tuple zs) ds = some es ∧
      fl = .nx ∧ env' = env.set i (.ow (.dict ((.tuple [], .none) :: dput (.tuple zs) y es))) ∧ st' = s1 := by
    simp only [] at e
    split at e
    · split at e
      · split at e
        · split at e
          · rename_i hk
            rw [Bool.and_eq_true, Bool.and_eq_true, decide_eq_true_eq, decide_eq_true_eq] at hk
            obtain ⟨es, h1, e⟩ := Option.map_eq_some_iff.mp e
            cases e
            exact ⟨_, _, _, _, _, es, ‹_›, ‹_›, ‹_›, hk.1.1, hk.1.2, hk.2, h1, rfl, rfl, rfl⟩
          · cases e
        · cases e
      · cases e
    · cases e
  obtain ⟨y, s0, zs, s1, ds, es, hf, hg, hl, hk, hlen, hzs, hd, rfl, rfl, rfl⟩ := hz
  refine ⟨M, _, st, env, y, s0, r.er, hf, fun v H1 M1 s so rv => ?_⟩
  have sl := r.er.env i
  rw [hl] at sl
  obtain ⟨a, ha, u, hv⟩ := sl
  rcases hv with ⟨kvs, hv, ra⟩ | ⟨kvs, es', rfl, hv, ra⟩
  · obtain ⟨rfl, hk2⟩ := dents_k ra hd
    exact absurd hk2 (by simp [keyD])
  · obtain ⟨rfl, _⟩ := dents_t hd
    obtain ⟨k, hk3⟩ := of_tkeyD hk
    have hk4 : zs = k.map kD := by injection hk3 with z; exact z.symm
    subst hk4
    refine ⟨_, join_some ha, M1, _, s0, env, _, _, r.er.step s so, hg, fun vs H2 M2 t so2 rvs => ⟨by rw [rvs.length]; exact SL_le hzs, fun p np => ?_⟩⟩
    obtain rfl := rp_kDs rvs
    have nM : a ∉ M := fun z => r.er.sto.ap a z u
    have st2 := (s.trans t).trans (Stp.grow (growN (o := .tup (k.map kV)) np))
    have so3 := so2.grow (growN (o := .tup (k.map kV)) np)
    have hv2 : upd H2 p (.tup (k.map kV)) a = some (.dT kvs) := st2.fr a _ nM hv
    have ra2 := ra.keep st2.keep
    have rv2 := (rv.step t).step (Stp.grow (growN (o := .tup (k.map kV)) np))
    refine .inr ⟨a, _, rfl, DPut.t hv2 upd_same (Nat.lt_of_lt_of_le (by rw [ra.len]; exact Nat.lt_of_succ_lt hlen) (by decide)), ?_⟩
    obtain ⟨r2, s2, l2⟩ := (r.step st2 so3).upd (o := .dT (putK kvs k v)) (y := .dict ((.tuple [], .none) :: dput (ktD k) y es)) hl ha (.inr ⟨_, _, rfl, upd_same, (put_t k ra2 rv2).keep (keepU u)⟩)
    exact q _ _ _ ((SSt.ofStp st2 so3 fun _ z => .inl z).trans s2) l2 r2
/-! ### a value is dropped, left -/
theorem sem_ex {f : Ev → Sto → Option (Vl × Sto)} (h : SemS K (fun env st => match f env st with | some (_, s) => some (.nx, env, s) | none => none) D σ H) : tDrop (SemE K f) D σ H := by
  obtain ⟨M, Z, st, env, fl, env', st', r, e, q⟩ := h
  cases hf : f env st with
  | none => simp only [hf] at e; cases e
  | some p =>
    obtain ⟨w, s1⟩ := p
    simp only [hf] at e
    cases e
    refine ⟨M, _, st, env, w, _, r.er, hf, ?_⟩
    cases w with
    | d x => exact fun v H1 M1 s so rv => q M1 H1 σ (SSt.ofStp s so fun _ z => .inl z) Lks.refl (r.step s so)
    | fr x =>
      intro a H1 M1 s na so ow
      have so1 := so.less (U' := UZ Z σ env) fun c z => .inl z
      exact q M1 H1 σ (SSt.ofStp s so1 fun _ z => .inl z) Lks.refl (r.step s so1)
    | rf n => exact fun a H1 M1 s so e => q M1 H1 σ (SSt.ofStp s so fun _ z => .inl z) Lks.refl (r.step s so)
theorem ret_post (r : SRl K M Z H st σ env) {w : Vl} {Q : VK} (q : RPost K M Z H (OwW σ env) st' w Q) : EPost K M (UZ Z σ env) H st' w Q := by
  cases w with
  | d x => exact fun v H1 M1 s so rv => q v H1 M1 (SSt.ofStp s so fun _ z => z.elim) (so.less fun _ z => .inl z) (rp_less (fun _ z => .inl z) rv)
  | fr x => exact fun a H1 M1 s na so ow => q a H1 M1 (SSt.ofStp s so fun _ z => z.elim) (.inr na) (so.less fun _ z => z.elim (fun z => .inl (.inl z)) .inr) (ow_less (fun _ z => z.elim (fun z => .inl (.inl z)) .inr) ow)
  | rf n => exact fun a H1 M1 s so e => q a H1 M1 (SSt.ofStp s so fun _ z => z.elim) (so.less fun _ z => .inl z) e
theorem sem_ret {f : Ev → Sto → Option (Vl × Sto)} (h : SemS K (fun env st => match f env st with | some (w, s) => some (.rt w, env, s) | none => none) D σ H) : tRet (SemE K f) D σ H := by
  obtain ⟨M, Z, st, env, fl, env', st', r, e, q⟩ := h
  cases hf : f env st with
  | none => simp only [hf] at e; cases e
  | some p =>
    obtain ⟨w, s1⟩ := p
    simp only [hf] at e
    cases e
    exact ⟨M, _, st, env, w, _, r.er, hf, ret_post r q⟩
theorem sem_ret0 (h : SemS K (fun env st => some (.rt (.d .none), env, st)) D σ H) : tRetN D σ H := by
  obtain ⟨M, Z, st, env, fl, env', st', r, e, q⟩ := h
  cases e
  exact q _ H M (SSt.refl fun _ z => z.elim) (r.er.sto.less fun _ z => .inl z) .non
theorem sem_reto {i : Nat} (h : SemS K (fun env st => match look env i with | .ow x => some (.rt (.fr x), env, st) | _ => none) D σ H) : tRet (tVar i) D σ H := by
  obtain ⟨M, Z, st, env, fl, env', st', r, e, q⟩ := h
  cases hl : look env i with
  | ow x =>
    simp only [hl] at e
    cases e
    have sl := r.er.env i
    rw [hl] at sl
    obtain ⟨a, ha, u, ow⟩ := sl
    have le : ∀ b, (Z b ∨ b = a) → UZ Z σ env b := fun b z => z.elim .inl fun z => .inr (by rw [z]; exact ⟨i, x, .inl hl, ha⟩)
    exact ⟨_, join_some ha, q a H M (SSt.refl fun _ z => z.elim) (.inl ⟨i, x, hl, ha⟩) (r.er.sto.less le) (ow_less le ow)⟩
  | no => simp only [hl] at e; cases e
  | sh x => simp only [hl] at e; cases e
  | lk x => simp only [hl] at e; cases e
  | rf n => simp only [hl] at e; cases e
theorem sem_rbox {g : Ev → Sto → Option (List PyData × Sto)} (h : SemS K (fun env st => match g env st with | some (xs, s) => if xs.length ≤ SL then some (.rt (.rf s.length), env, s ++ [xs]) else none | none => none) D σ H) :
    tRet (SemE K fun env st => bnd (g env st) fun xs s => if xs.length ≤ SL then some (.fr (.list xs), s) else none) D σ H := by
  obtain ⟨M, Z, st, env, fl, env', st', r, e, q⟩ := h
  cases hf : g env st with
  | none => simp only [hf] at e; cases e
  | some p =>
    obtain ⟨xs, s1⟩ := p
    simp only [hf] at e
    split at e
    · rename_i hz
      cases e
      refine ⟨M, _, st, env, .fr (.list xs), s1, r.er, by show bnd (g env st) _ = _; rw [hf, bnd_some, if_pos hz], fun a H1 M1 s na so ow => ?_⟩
      have nM : a ∉ M1 := fun m => so.ap a m (.inr rfl)
      have tr := so.tracked
      have le : ∀ b, Bar (M1 ++ [a]) Z b → Bar M1 (fun b => UZ Z σ env b ∨ b = a) b := fun b z => by
        rcases z with z | z
        · rcases List.mem_append.mp z with z | z
          · exact .inl z
          · exact .inr (.inr (List.mem_singleton.mp z))
        · exact .inr (.inl (.inl z))
      have kp : Keep (Bar M1 fun b => UZ Z σ env b ∨ b = a) (Bar (M1 ++ [a]) Z) H1 H1 := fun b o nb e => ⟨e, fun z => nb (le b z)⟩
      obtain ⟨vs, hv, ra⟩ := ow
      have sst : SSt (OwW σ env) M H Non M1 H1 := SSt.ofStp s so fun _ z => z.elim
      refine q a H1 (M1 ++ [a]) ⟨sst.pre.trans (List.prefix_append _ _), fun b hb => ?_, sst.fr, sst.w, sst.th⟩ ⟨?_, ?_, fun b hb hz => ?_, fun n zs e => ?_, fun b hz => r.er.sto.less (U' := Z) (fun _ z => .inl z) |>.tr b hz |> fun w => sst.th b w⟩ ?_
      · rcases List.mem_append.mp hb with z | z
        · exact s.new b z
        · rw [List.mem_singleton.mp z]; exact .inr na
      · rw [List.length_append, List.length_append, so.len]; rfl
      · rw [List.nodup_append]
        refine ⟨so.nd, by simp, fun b hb c hc => ?_⟩
        rw [List.mem_singleton.mp hc]
        exact fun z => nM (z ▸ hb)
      · rcases List.mem_append.mp hb with z | z
        · exact so.ap b z (.inl (.inl hz))
        · rw [List.mem_singleton.mp z] at hz
          obtain ⟨o, e⟩ := r.er.sto.tr a (.inl hz)
          rw [na] at e; cases e
      · by_cases c : n < s1.length
        · rw [List.getElem?_append_left c] at e
          obtain ⟨b, us, h1, h2, h3⟩ := so.box n zs e
          exact ⟨b, us, by rw [List.getElem?_append_left (List.getElem?_eq_some_iff.mp h1).1]; exact h1, h2, h3.keep kp⟩
        · have hn : n = s1.length := by
            have := (List.getElem?_eq_some_iff.mp e).1
            rw [List.length_append, List.length_singleton] at this
            omega
          subst hn
          rw [List.getElem?_append_right (Nat.le_refl _), Nat.sub_self] at e
          cases e
          exact ⟨a, vs, by rw [← so.len, List.getElem?_append_right (Nat.le_refl _), Nat.sub_self]; rfl, hv, ra.keep kp⟩
      · rw [← so.len, List.getElem?_append_right (Nat.le_refl _), Nat.sub_self]; rfl
    · cases e
/-! ### several stores, the values known -/
theorem SSt.keep (r : SRl K M Z H st σ env) (s : SSt (OwW σ env) M H (OwW σ' env') M' H') (l : Lks σ env σ' env') : Keep (Bar M (UZ Z σ env)) (Bar M' (UZ Z σ' env')) H H' := fun b o nb e => by
  have nm : b ∉ M := fun z => nb (.inl z)
  have nz : ¬ Z b := fun z => nb (.inr (.inl z))
  have nv : ¬ OwV σ env b := fun z => nb (.inr (.inr z))
  refine ⟨s.fr b o nm (fun z => nv z.v) e, fun z => ?_⟩
  rcases z with z | z | z
  · exact (s.new b z).elim nm fun q => by rw [q] at e; cases e
  · exact nz z
  · obtain ⟨i, x, hx | hx, q⟩ := z
    · exact (s.w b ⟨i, x, hx, q⟩).elim (fun z => nv z.v) fun q => by rw [q] at e; cases e
    · obtain ⟨h1, h2⟩ := l i x hx
      exact nv ⟨i, x, .inr h1, by rw [← h2]; exact q⟩
theorem sub_ok {g : Ev → Sto → Option (PyData × Sto)} {i : Nat} {y kx : PyData} {v : V} {Q : L2.St → Hp → Prop} {s0 s1 : Sto} (r : SRl K M Z H s0 σ env) (rv : Rp K (Bar M (UZ Z σ env)) H v y) (hg : g env s0 = some (kx, s1)) (hp : putAt env i kx y s1 = some (env', st'))
    (q : ∀ M' H' σ', SSt (OwW σ env) M H (OwW σ' env') M' H' → Lks σ env σ' env' → SRl K M' Z H' st' σ' env' → Q σ' H') : gSub (tVar i) (SemB K g) rSetLD v σ H Q := by
  have hz : (∃ xs ys, look env i = .ow (.list xs) ∧ setNth xs kx y = some ys ∧ env' = env.set i (.ow (.list ys)) ∧ st' = s1) ∨
      (∃ ds es, look env i = .ow (.dict ds) ∧ keyD kx = true ∧ ds.length < SL ∧ dents kx ds = some es ∧ env' = env.set i (.ow (.dict (dput kx y es))) ∧ st' = s1) ∨
      ∃ n xs ys, look env i = .rf n ∧ s1[n]? = some xs ∧ setNth xs kx y = some ys ∧ env' = env ∧ st' = s1.set n ys := by
    unfold putAt at hp
    split at hp
    · obtain ⟨ys, h1, e⟩ := Option.map_eq_some_iff.mp hp
      cases e
      exact .inl ⟨_, _, ‹_›, h1, rfl, rfl⟩
    · split at hp
      · rename_i hk
        rw [Bool.and_eq_true, decide_eq_true_eq] at hk
        obtain ⟨es, h1, e⟩ := Option.map_eq_some_iff.mp hp
        cases e
        exact .inr (.inl ⟨_, es, ‹_›, hk.1, hk.2, h1, rfl, rfl⟩)
      · cases hp
    · obtain ⟨xs, h0, e⟩ := Option.bind_eq_some_iff.mp hp
      obtain ⟨ys, h1, e⟩ := Option.map_eq_some_iff.mp e
      cases e
      exact .inr (.inr ⟨_, _, _, ‹_›, h0, h1, rfl, rfl⟩)
    · cases hp
  have sl := r.er.env i
  rcases hz with ⟨xs, ys, hl, hs, rfl, rfl⟩ | ⟨ds, es, hl, hk, hlen, hd, rfl, rfl⟩ | ⟨n, xs, ys, hl, hb, hs, rfl, rfl⟩
  · rw [hl] at sl
    obtain ⟨a, ha, u, vs, hv, ra⟩ := sl
    obtain ⟨kk, j, rfl, hj, rfl⟩ := setNth_ok hs
    refine ⟨_, join_some ha, M, _, s0, env, _, _, r.er, hg, fun kv H2 M2 t so2 rk => ?_⟩
    cases rk.w.int
    have nM : a ∉ M := fun z => r.er.sto.ap a z u
    have hv2 : H2 a = some (.lst vs) := t.fr a _ nM hv
    have ra2 := ra.step t
    refine .inl ⟨a, vs, kk, j, rfl, rfl, hv2, by rw [ra.length]; exact hj, ?_⟩
    obtain ⟨r2, s2, l2⟩ := (r.step t so2).upd (o := .lst (vs.set j v)) (y := .list (xs.set j y)) hl ha ⟨_, upd_same, (RpAll.set (rv.step t) j ra2).keep (keepU u)⟩
    exact q _ _ _ ((SSt.ofStp t so2 fun _ z => .inl z).trans s2) l2 r2
  · rw [hl] at sl
    obtain ⟨a, ha, u, hv⟩ := sl
    rcases hv with ⟨kvs, hv, ra⟩ | ⟨kvs, es', rfl, hv, ra⟩
    · obtain ⟨rfl, _⟩ := dents_k ra hd
      obtain ⟨k', rfl⟩ := of_keyD hk
      refine ⟨_, join_some ha, M, _, s0, env, _, _, r.er, hg, fun kv H2 M2 t so2 rk => ?_⟩
      have ek : kv = kV k' := by
        rcases k' with i' | z
        · exact rk.w.int
        · exact rk.w.str
      subst ek
      have nM : a ∉ M := fun z => r.er.sto.ap a z u
      have hv2 : H2 a = some (.dK kvs) := t.fr a _ nM hv
      have ra2 := ra.keep t.keep
      refine .inr ⟨a, _, rfl, DPut.k hv2 (Nat.lt_of_lt_of_le (by rw [ra.len]; exact hlen) (by decide)), ?_⟩
      obtain ⟨r2, s2, l2⟩ := (r.step t so2).upd (o := .dK (putK kvs k' v)) (y := .dict (dput (kD k') y es)) hl ha (.inl ⟨_, upd_same, (put_k k' ra2 (rv.step t)).keep (keepU u)⟩)
      exact q _ _ _ ((SSt.ofStp t so2 fun _ z => .inl z).trans s2) l2 r2
    · obtain ⟨_, ht⟩ := dents_t hd
      cases kx <;> first | (cases hk; done) | (cases ht; done)
  · rw [hl] at sl
    obtain ⟨a, ha, hv⟩ := sl
    obtain ⟨kk, j, rfl, hj, rfl⟩ := setNth_ok hs
    refine ⟨_, join_some hv, M, _, s0, env', _, _, r.er, hg, fun kv H2 M2 t so2 rk => ?_⟩
    cases rk.w.int
    have ha2 : M2[n]? = some a := by
      obtain ⟨w, rfl⟩ := t.pre
      rw [List.getElem?_append_left (List.getElem?_eq_some_iff.mp ha).1]
      exact ha
    obtain ⟨b, vs, h1, h2, h3⟩ := so2.box n xs hb
    rw [ha2] at h1; cases h1
    refine .inl ⟨a, vs, kk, j, rfl, rfl, h2, by rw [h3.length]; exact hj, ?_⟩
    obtain ⟨r2, s2⟩ := (r.step t so2).box (xs := xs) (ys := xs.set j y) ha2 (RpAll.set (rv.step t) j h3)
    exact q _ _ _ ((SSt.ofStp t so2 fun _ z => .inl z).trans s2) Lks.refl r2
def tgsS (K : PySem.W.Frag) (kf : E → Ev → Sto → Option (PyData × Sto)) : List (Nat × Option E) → TGs
  | [] => gNil
  | (i, none) :: ts => gCons (gName i) (tgsS K kf ts)
  | (i, some k) :: ts => gCons (gSub (tVar i) (SemB K (kf k)) rSetLD) (tgsS K kf ts)
theorem putAll_ok {kf : E → Ev → Sto → Option (PyData × Sto)} : ∀ (ts : List (Nat × Option E)) {xs : List PyData} {vs : List V} {M : List Addr} {H : Hp} {σ : L2.St} {env : Ev} {st : Sto} {Q : L2.St → Hp → Prop}, SRl K M Z H st σ env → RpAll K (Bar M (UZ Z σ env)) H vs xs → putAll kf ts xs env st = some (env', st') →
    (∀ M' H' σ', SSt (OwW σ env) M H (OwW σ' env') M' H' → Lks σ env σ' env' → SRl K M' Z H' st' σ' env' → Q σ' H') → tgsS K kf ts vs σ H Q
  | [], xs, vs, M, H, σ, env, st, Q, r, rv, e, q => by
    cases rv with
    | nil => cases e; exact ⟨rfl, q M H σ (SSt.refl fun _ z => z) Lks.refl r⟩
    | cons _ _ => cases e
  | (i, none) :: ts, xs, vs, M, H, σ, env, st, Q, r, rv, e, q => by
    cases rv with
    | nil => cases e
    | @cons v vs0 d ds0 r1 rr =>
      obtain ⟨hi, e⟩ := dec2' (show (if i < env.length then putAll kf ts _ (env.set i (.sh d)) st else none) = some (env', st') from e)
      refine ⟨v, _, rfl, ?_⟩
      refine (show tgR K (.n i) v σ H (fun σ' H' => tgsS K kf ts vs0 σ' H' Q) → gName i v σ H (fun σ' H' => tgsS K kf ts vs0 σ' H' Q) from fun z => by unfold tgR at z; exact z) ?_
      refine bind_ok (.n i) r.er r1 (show bindT (.n i) d env = some (env.set i (.sh d)) by show (if i < env.length then some (env.set i (.sh d)) else none) = _; rw [if_pos hi]) fun σ1 er1 hl ag => ?_
      have sub : Sub σ env σ1 (env.set i (.sh d)) := fun j ⟨y, hy⟩ => by
        rw [look_set env i j _ hi] at hy ⊢
        by_cases c : j = i
        · rw [if_pos c] at hy; rcases hy with hy | hy <;> cases hy
        · rw [if_neg c]; exact ⟨rfl, by rw [ag j (fun z => c (by simpa [slots] using z))]⟩
      have r' := r.sub sub er1
      have s' : SSt (OwW σ env) M H (OwW σ1 (env.set i (.sh d))) M H := SSt.refl fun a z => sub.w z
      exact putAll_ok ts r' (rr.keep (SSt.keep r s' sub.lks)) e fun M' H' σ' s l r2 => q M' H' σ' (s'.trans s) (sub.lks.trans l) r2
  | (i, some k) :: ts, xs, vs, M, H, σ, env, st, Q, r, rv, e, q => by
    cases rv with
    | nil => cases e
    | @cons v vs0 d ds0 r1 rr =>
      obtain ⟨kx, s1, e1, e⟩ := bnd_eq (show bnd (kf k env st) (fun kx s1 => (putAt env i kx d s1).bind fun p => putAll kf ts _ p.1 p.2) = some (env', st') from e)
      obtain ⟨⟨e2, s2⟩, e3, e⟩ := Option.bind_eq_some_iff.mp e
      refine ⟨v, _, rfl, ?_⟩
      exact sub_ok r r1 e1 e3 fun M1 H1 σ1 s l r2 => putAll_ok ts r2 (rr.keep (SSt.keep r s l)) e fun M' H' σ' s' l' r3 => q M' H' σ' (s.trans s') (l.trans l') r3
/-! ### a test that is lent lists -/
theorem Rp.scal {B B' : Addr → Prop} {v : V} : ∀ {d : PyData}, scalD d = true → Rp K B H v d → Rp K B' H v d
  | .none, _, .non => .non
  | .bool _, _, .bl _ => .bl _
  | .int _, _, .int _ => .int _
  | .str _, _, .str _ => .str _
theorem RpAll.scal {B B' : Addr → Prop} : ∀ {vs : List V} {xs : List PyData}, xs.all scalD = true → RpAll K B H vs xs → RpAll K B' H vs xs
  | _, _, _, .nil => .nil
  | _, _, h, .cons r rr => by
    rw [List.all_cons, Bool.and_eq_true] at h
    exact .cons (Rp.scal h.1 r) (RpAll.scal h.2 rr)
theorem StoOk.lend (r : StoOk K M U H st) (s : Stp M H M1 H1) (so : StoOk K M1 U' H1 st1) (hs : scalS st1 = true) : StoOk K M1 U H1 st1 where
  len := so.len
  nd := so.nd
  ap := fun a ha u => (s.new a ha).elim (fun z => r.ap a z u) fun z => by
    obtain ⟨o, e⟩ := r.tr a u
    rw [z] at e; cases e
  box := fun n xs e => by
    obtain ⟨a, vs, h1, h2, h3⟩ := so.box n xs e
    exact ⟨a, vs, h1, h2, h3.scal (List.all_eq_true.mp hs xs (List.mem_of_getElem? e))⟩
  tr := fun a u => by
    obtain ⟨o, e⟩ := r.tr a u
    exact ⟨o, s.fr a o (fun z => r.ap a z u) e⟩
theorem sem_iteL {is : List Nat} {c : Ev → Sto → Option (Bool × Sto)} {f g : Ev → Sto → SR} (h : SemS K (fun env st => match freeze env is with
    | some e1 => (match c e1 st with
      | some (true, s) => if scalS s = true then f env s else none
      | some (false, s) => if scalS s = true then g env s else none
      | none => none)
    | none => none) D σ H) : tIfS (SemT K c) (SemS K f) (SemS K g) D σ H := by
  obtain ⟨M, Z, st, env, fl, env', st', r, e, q⟩ := h
  cases hf : Pi.freeze env is with
  | none => simp only [hf] at e; cases e
  | some e1 =>
    simp only [hf] at e
    obtain ⟨r1, _, _⟩ := r.freeze is hf
    cases hc : c e1 st with
    | none => simp only [hc] at e; cases e
    | some p =>
      obtain ⟨b, s1⟩ := p
      refine ⟨M, _, st, e1, b, s1, r1.er, hc, fun H1 M1 s so => ?_⟩
      cases b with
      | true =>
        simp only [hc] at e
        obtain ⟨hs, e⟩ := dec2' (show (if scalS s1 = true then f env s1 else none) = some (fl, env', st') from e)
        have so' := r.er.sto.lend s so hs
        rw [if_pos rfl]
        exact ⟨M1, Z, s1, env, fl, env', st', r.step s so', e, q.read s so'⟩
      | false =>
        simp only [hc] at e
        obtain ⟨hs, e⟩ := dec2' (show (if scalS s1 = true then g env s1 else none) = some (fl, env', st') from e)
        have so' := r.er.sto.lend s so hs
        rw [if_neg Bool.false_ne_true]
        exact ⟨M1, Z, s1, env, fl, env', st', r.step s so', e, q.read s so'⟩
end
end Pi

end
section
set_option Elab.async false
set_option linter.all false
set_option maxRecDepth 100000
set_option maxHeartbeats 1000000
namespace Pi
open PySem PySem.Spec PyProof.Rows L2
section
variable {K : PySem.W.Frag} {M M' M1 M2 : List Addr} {U U' Z W W1 : Addr → Prop} {H H' H1 H2 : Hp} {st st' st1 : Sto} {σ σ' σ1 : L2.St} {env env' env1 : Ev} {D : Ends}
/-! ### while -/
theorem sem_wh {c : Ev → Sto → Option (Bool × Sto)} {b : Ev → Sto → SR} {n : Nat} (h : SemS K (fun env st => whL c b n env st) D σ H) : tWhile (SemT K c) (SemS K b) D σ H := by
  refine ⟨fun m σ' H' => SemS K (fun env st => whL c b m env st) D σ' H', ⟨n, h⟩, fun m σ1 H1 hm => ?_⟩
  obtain ⟨M, Z, st, env, fl, env', st', r, e, q⟩ := hm
  cases m with
  | zero => cases e
  | succ m =>
    have e : (match c env st with
      | none => none
      | some (false, s1) => some (.nx, env, s1)
      | some (true, s1) => match b env s1 with
        | some (.nx, e2, s2) => whL c b m e2 s2
        | some (.ct, e2, s2) => whL c b m e2 s2
        | some (.bk, e2, s2) => some (.nx, e2, s2)
        | some (.rt w, e2, s2) => some (.rt w, e2, s2)
        | none => none) = some (fl, env', st') := e
    cases hc : c env st with
    | none => rw [hc] at e; cases e
    | some p =>
      obtain ⟨k, s1⟩ := p
      rw [hc] at e
      refine ⟨M, _, st, env, k, s1, r.er, hc, fun H2 M2 s so => ?_⟩
      cases k with
      | false =>
        cases e
        rw [if_neg Bool.false_ne_true]
        exact q M2 H2 σ1 (SSt.ofStp s so fun _ z => .inl z) Lks.refl (r.step s so)
      | true =>
        rw [if_pos rfl]
        have q2 := q.read s so
        refine ⟨fun σ' H' => SemS K (fun env st => whL c b m env st) D σ' H', fun σ' H' h => ⟨m, Nat.lt_succ_self m, h⟩, ?_⟩
        cases hb : b env s1 with
        | none => simp only [hb] at e; cases e
        | some p =>
          obtain ⟨f1, e2, s2⟩ := p
          simp only [hb] at e
          refine ⟨M2, Z, s1, env, f1, e2, s2, r.step s so, hb, ?_⟩
          cases f1 with
          | nx => exact fun M' H' σ' t l r' => ⟨M', Z, s2, e2, fl, env', st', r', e, q2.go t l⟩
          | ct => exact fun M' H' σ' t l r' => ⟨M', Z, s2, e2, fl, env', st', r', e, q2.go t l⟩
          | bk => cases e; exact q2
          | rt w => cases e; exact q2
/-! ### a list is locked -/
theorem SRl.relab (r : SRl K M Z H st σ env) (hlen : env1.length = env.length) (h : ∀ i, look env1 i = look env i ∨ ∃ x, (look env i = .ow x ∨ look env i = .lk x) ∧ (look env1 i = .ow x ∨ look env1 i = .lk x)) : SRl K M Z H st σ env1 := by
  have io : ∀ i, IsOw (look env1 i) → IsOw (look env i) := fun i ⟨y, hy⟩ => by
    rcases h i with z | ⟨x, z, _⟩
    · rw [← z]; exact ⟨y, hy⟩
    · exact ⟨x, z⟩
  have vv : ∀ a, OwV σ env1 a → OwV σ env a := fun a ⟨i, y, hy, e⟩ => by
    obtain ⟨z, hz⟩ := io i ⟨y, hy⟩
    exact ⟨i, z, hz, e⟩
  have vb : ∀ a, OwV σ env a → OwV σ env1 a := fun a ⟨i, y, hy, e⟩ => by
    rcases h i with z | ⟨x, _, z⟩
    · exact ⟨i, y, by rw [z]; exact hy, e⟩
    · exact ⟨i, x, z, e⟩
  have er1 : ER K M (UZ Z σ env) H st σ env1 := by
    refine ⟨r.er.sto, hlen.trans r.er.len, fun i => ?_⟩
    have q := r.er.env i
    rcases h i with z | ⟨x, z1, z2⟩
    · rw [z]; exact q
    · have q : ∃ a, (σ[i]?).join = some (.ref a) ∧ UZ Z σ env a ∧ OwAt K (Bar M (UZ Z σ env)) H H a x := by
        rcases z1 with z1 | z1 <;> (rw [z1] at q; exact q)
      rcases z2 with z2 | z2 <;> (rw [z2]; exact q)
  exact ⟨er1.less (fun a z => z.elim .inl fun z => .inr (vv a z)) (fun a z => Or.inr z), fun i j a hi hj => r.ds i j a (io i hi) (io j hj), fun a z => r.nz a (vv a z)⟩
theorem lock_look {i : Nat} {x : PyData} (hl : look env i = .ow x) : lock (some i) env = env.set i (.lk x) := by
  show (match look env i with | .ow x => env.set i (.lk x) | _ => env) = _
  rw [hl]
/-- what a loop's turns leave, unlocked -/
theorem unl_nx {o : Option Nat} {e1 env' : Ev} {s1 st' : Sto} {fl : Fl} (ho : ∀ i, o = some i → ∃ x, look env i = .ow x) (e : unlock o (some (.nx, e1, s1)) = some (fl, env', st'))
    (s : SSt (OwW σ (lock o env)) M H (OwW σ1 e1) M1 H1) (l : Lks σ (lock o env) σ1 e1) (r1 : SRl K M1 Z H1 s1 σ1 e1) :
    fl = .nx ∧ st' = s1 ∧ SSt (OwW σ env) M H (OwW σ1 env') M1 H1 ∧ Lks σ env σ1 env' ∧ SRl K M1 Z H1 s1 σ1 env' := by
  cases o with
  | none => cases e; exact ⟨rfl, rfl, s, l, r1⟩
  | some i =>
    obtain ⟨x, hl⟩ := ho i rfl
    rw [lock_look hl] at s l
    have hi : i < env.length := look_lt (by rw [hl]; exact fun z => nomatch z)
    have lk : ∀ j, look (env.set i (.lk x)) j = if j = i then .lk x else look env j := fun j => look_set env i j _ hi
    have e : (match look e1 i with | .lk x => some (Fl.nx, e1.set i (.ow x), s1) | _ => none) = some (fl, env', st') := e
    cases h1 : look e1 i with
    | lk y =>
      rw [h1] at e
      cases e
      have hi1 : i < e1.length := look_lt (by rw [h1]; exact fun z => nomatch z)
      have lk1 : ∀ j, look (e1.set i (.ow y)) j = if j = i then .ow y else look e1 j := fun j => look_set e1 i j _ hi1
      have ew : ∀ a, OwW σ (env.set i (.lk x)) a → OwW σ env a := fun a ⟨j, z, q1, q2⟩ => by
        rw [lk] at q1
        by_cases c : j = i
        · rw [if_pos c] at q1; cases q1
        · rw [if_neg c] at q1; exact ⟨j, z, q1, q2⟩
      refine ⟨rfl, rfl, ⟨s.pre, s.new, fun a u n w => s.fr a u n fun z => w (ew a z), fun a ⟨j, z, q1, q2⟩ => ?_, s.th⟩, fun j z q => ?_, r1.relab (by rw [List.length_set]) fun j => ?_⟩
      · rw [lk1] at q1
        by_cases c : j = i
        · subst c
          exact .inl ⟨j, x, hl, by rw [← (l j y h1).2]; exact q2⟩
        · rw [if_neg c] at q1
          exact (s.w a ⟨j, z, q1, q2⟩).elim (fun z => .inl (ew a z)) .inr
      · rw [lk1] at q
        by_cases c : j = i
        · rw [if_pos c] at q; cases q
        · rw [if_neg c] at q
          obtain ⟨q1, q2⟩ := l j z q
          rw [lk, if_neg c] at q1
          exact ⟨q1, q2⟩
      · rw [lk1]
        by_cases c : j = i
        · rw [if_pos c, c]; exact .inr ⟨y, .inr h1, .inl rfl⟩
        · rw [if_neg c]; exact .inl rfl
    | no => rw [h1] at e; cases e
    | sh x => rw [h1] at e; cases e
    | ow x => rw [h1] at e; cases e
    | rf n => rw [h1] at e; cases e
theorem hide_at (env : Ev) (i : Nat) : look (hideW env) i = match look env i with | .ow _ => .no | s => s := by
  unfold look hideW
  rw [List.getD_eq_getElem?_getD, List.getD_eq_getElem?_getD, List.getElem?_map]
  cases h : env[i]? with
  | none => rfl
  | some s => cases s <;> rfl
theorem ER.hide (er : ER K M U H st σ env) : ER K M U H st σ (hideW env) := ⟨er.sto, by unfold hideW; rw [List.length_map]; exact er.len, fun i => by
  have q := er.env i
  rw [hide_at]
  cases h : look env i with
  | no => trivial
  | sh x => rw [h] at q; exact q
  | ow x => trivial
  | lk x => rw [h] at q; exact q
  | rf n => rw [h] at q; exact q⟩
theorem forL_cons {bd : PyData → Ev → Option Ev} {b : Ev → Sto → SR} {x : PyData} {xs : List PyData} {p : Fl × Ev × Sto} (e : forL bd b (x :: xs) env st = some p) :
    ∃ e1 f e2 s2, bd x env = some e1 ∧ b e1 st = some (f, e2, s2) ∧ ((f = .nx ∨ f = .ct) ∧ forL bd b xs e2 s2 = some p ∨ f = .bk ∧ p = (.nx, e2, s2) ∨ ∃ w, f = .rt w ∧ p = (.rt w, e2, s2)) := by
  unfold forL at e
  cases hb : bd x env with
  | none => rw [hb] at e; cases e
  | some e1 =>
    simp only [hb] at e
    cases hc : b e1 st with
    | none => simp only [hc] at e; cases e
    | some r =>
      obtain ⟨f, e2, s2⟩ := r
      simp only [hc] at e
      refine ⟨e1, f, e2, s2, rfl, hc, ?_⟩
      cases f with
      | nx => exact .inl ⟨.inl rfl, e⟩
      | ct => exact .inl ⟨.inr rfl, e⟩
      | bk => cases e; exact .inr (.inl ⟨rfl, rfl⟩)
      | rt w => cases e; exact .inr (.inr ⟨w, rfl, rfl⟩)
/-! ### for -/
theorem sem_for {gi : Ev → Sto → Option (List PyData × Sto)} {t : Tg} {b : Ev → Sto → SR} {o : Ev → Option Nat} {bb : Bool} {z : L2.St → Ev → Addr → Prop} (ho : ∀ env i, o env = some i → ∃ x, look env i = .ow x)
    (hz : (bb = true ∧ z = OwV) ∨ z = fun _ _ _ => False)
    (h : SemS K (fun env st => match gi (hideB bb (lock (o env) env)) st with | some (xs, s) => unlock (o env) (forL (bindT t) b xs (lock (o env) env) s) | none => none) D σ H) : tFor (SemIZ z K gi) (tgR K t) (SemS K b) D σ H := by
  obtain ⟨M, Z, st, env, fl, env', st', r, e, q⟩ := h
  cases hg : gi (hideB bb (lock (o env) env)) st with
  | none => simp only [hg] at e; cases e
  | some p =>
    obtain ⟨xs, s1⟩ := p
    simp only [hg] at e
    have ho := ho env
    generalize o env = oo at *
    cases hr : forL (bindT t) b xs (lock oo env) s1 with
    | none =>
      rw [hr] at e
      cases oo <;> cases e
    | some rr =>
      obtain ⟨f1, e1, s9⟩ := rr
      rw [hr] at e
      have rl : SRl K M Z H st σ (lock oo env) := by
        cases oo with
        | none => exact r
        | some i =>
          obtain ⟨x, hl⟩ := ho i rfl
          rw [lock_look hl]
          have hi : i < env.length := look_lt (by rw [hl]; exact fun z => nomatch z)
          refine r.relab (by rw [List.length_set]) fun j => ?_
          rw [look_set env i j _ hi]
          by_cases c : j = i
          · rw [if_pos c, c]; exact .inr ⟨x, .inl hl, .inr rfl⟩
          · rw [if_neg c]; exact .inl rfl
      have lw : ∀ a, OwW σ (lock oo env) a → OwW σ env a := fun a h => by
        cases oo with
        | none => exact h
        | some i =>
          obtain ⟨x, hl⟩ := ho i rfl
          rw [lock_look hl] at h
          have hi : i < env.length := look_lt (by rw [hl]; exact fun z => nomatch z)
          obtain ⟨j, y, h1, h2⟩ := h
          rw [look_set env i j _ hi] at h1
          by_cases c : j = i
          · rw [if_pos c] at h1; cases h1
          · rw [if_neg c] at h1; exact ⟨j, y, h1, h2⟩
      have erh : ER K M (UZ Z σ (lock oo env)) H st σ (hideB bb (lock oo env)) := by
        cases bb with
        | false => exact rl.er
        | true => exact rl.er.hide
      refine ⟨M, _, st, _, xs, s1, erh, hg, fun J H1 M1 p1 so1 wd => ?_⟩
      -- from the loop's head
      have back : ∀ {σ2 : L2.St} {env2 : Ev} {M2 : List Addr} {H2 : Hp}, SSt (OwW σ (lock oo env)) M1 H1 (OwW σ2 env2) M2 H2 → SSt (OwW σ (lock oo env)) M H (OwW σ2 env2) M2 H2 := fun s => (SSt.ofStp p1 so1 fun _ z => .inl z).trans s
      have done : ∀ {σ2 : L2.St} {e2 : Ev} {s2 : Sto} {M2 : List Addr} {H2 : Hp}, SSt (OwW σ (lock oo env)) M1 H1 (OwW σ2 e2) M2 H2 → Lks σ (lock oo env) σ2 e2 → SRl K M2 Z H2 s2 σ2 e2 → (f1, e1, s9) = (.nx, e2, s2) → D.nx σ2 H2 := fun {σ2 e2 s2 M2 H2} s l r2 ee => by
        cases ee
        obtain ⟨rfl, rfl, s', l', r'⟩ := unl_nx ho e (back s) l r2
        exact q _ _ _ s' l' r'
      let Wl : Nat → Nat → L2.St → Hp → Prop := fun i m σ2 H2 => m = xs.length - i ∧ i ≤ xs.length ∧ ∃ M2 s2 env2, SSt (OwW σ (lock oo env)) M1 H1 (OwW σ2 env2) M2 H2 ∧ Lks σ (lock oo env) σ2 env2 ∧ SRl K M2 Z H2 s2 σ2 env2 ∧ forL (bindT t) b (xs.drop i) env2 s2 = some (f1, e1, s9)
      refine ⟨Wl, ⟨xs.length, by simp, Nat.zero_le _, M1, s1, lock oo env, SSt.refl fun _ z => z, Lks.refl, rl.step p1 so1, hr⟩, ?_⟩
      rintro i m σ2 H2 ⟨rfl, hi, M2, s2, env2, s, l, r2, ef⟩
      have lat : Lat M1 (UZ Z σ (lock oo env)) (z σ (hideB bb (lock oo env))) H1 M2 (UZ Z σ2 env2) H2 := by
        refine ⟨s.new, fun a u => ?_, r2.er.sto.tracked, OwW σ (lock oo env), fun a w => .inr w.v, fun a za w => ?_, s.fr⟩
        · rcases u with u | ⟨j, y, h1, h2⟩
          · exact .inl (.inl u)
          · rcases h1 with h1 | h1
            · exact (s.w a ⟨j, y, h1, h2⟩).elim (fun w => .inl (.inr w.v)) .inr
            · obtain ⟨q1, q2⟩ := l j y h1
              exact .inl (.inr ⟨j, y, .inr q1, by rw [← q2]; exact h2⟩)
        · rcases hz with ⟨hb, hz⟩ | hz
          · subst hb; subst hz
            obtain ⟨j, y, h1, h2⟩ := za
            obtain ⟨k, x, h3, h4⟩ := w
            have hj : look (lock oo env) j = .lk y := by
              rw [show hideB true (lock oo env) = hideW (lock oo env) from rfl, hide_at] at h1
              cases h5 : look (lock oo env) j with
              | no => rw [h5] at h1; rcases h1 with h1 | h1 <;> cases h1
              | sh x => rw [h5] at h1; rcases h1 with h1 | h1 <;> cases h1
              | ow x => rw [h5] at h1; rcases h1 with h1 | h1 <;> cases h1
              | lk x =>
                rw [h5] at h1
                rcases h1 with h1 | h1
                · cases h1
                · exact h1
              | rf n => rw [h5] at h1; rcases h1 with h1 | h1 <;> cases h1
            have := rl.ds j k a ⟨y, .inr hj⟩ ⟨x, .inl h3⟩ h2 h4
            subst this
            rw [hj] at h3; cases h3
          · subst hz; exact za
      by_cases hlt : i < xs.length
      · refine .inr ⟨wd.go M2 _ H2 i lat hlt, fun σ' H' => Wl (i + 1) (xs.length - (i + 1)) σ' H', fun σ' H' h => ⟨xs.length - (i + 1), by omega, h⟩, fun x H3 hy => ?_⟩
        obtain ⟨d, ed, gr, rx⟩ := wd.yld M2 _ H2 i x H3 lat hlt hy
        rw [drop_at hlt ed] at ef
        obtain ⟨en, fb, e5, s5, hbd, hbo, ef⟩ := forL_cons ef
        have so3 := r2.er.sto.grow gr
        have r3 := r2.step (Stp.grow gr) so3
        refine bind_ok t r3.er rx hbd fun σ3 er3 hl ag => ?_
        have sub : Sub σ2 env2 σ3 en := fun j ⟨y, hy⟩ => by
          rcases (bind_look t hbd).2 j with ⟨h1, h2⟩ | ⟨z, h1⟩
          · exact ⟨h1, by rw [ag j h2]⟩
          · rw [h1] at hy; rcases hy with hy | hy <;> cases hy
        have r4 : SRl K M2 Z H3 s2 σ3 en := r3.sub sub er3
        have s4 : SSt (OwW σ (lock oo env)) M1 H1 (OwW σ3 en) M2 H3 := (s.trans (SSt.ofStp (W' := OwW σ2 env2) (Stp.grow gr) so3 fun _ z => .inl z)).mono fun a z => sub.w z
        have l4 : Lks σ (lock oo env) σ3 en := l.trans sub.lks
        refine ⟨M2, Z, s2, en, fb, e5, s5, r4, hbo, ?_⟩
        rcases ef with ⟨hf, ef⟩ | ⟨rfl, ef⟩ | ⟨w, rfl, ef⟩
        · have nxt : NPost K M2 Z H3 σ3 en s5 e5 (fun σ' H' => Wl (i + 1) (xs.length - (i + 1)) σ' H') := fun M' H' σ' t l' r' => ⟨rfl, hlt, M', s5, e5, s4.trans t, l4.trans l', r', ef⟩
          rcases hf with rfl | rfl
          · exact nxt
          · exact nxt
        · exact fun M' H' σ' t l' r' => done (s4.trans t) (l4.trans l') r' ef
        · cases ef
          have q' : RPost K M Z H (OwW σ env) s9 w D.rt := by
            cases oo with
            | none => cases e; exact q
            | some i => cases e; exact q
          have b4 := back s4
          exact q'.go ⟨b4.pre, b4.new, fun a u n w' => b4.fr a u n fun z => w' (lw a z), fun a z => (b4.w a z).elim (fun z => .inl (lw a z)) .inr, b4.th⟩
      · have hh : i = xs.length := by omega
        subst hh
        refine .inl ⟨wd.stop M2 _ H2 lat, ?_⟩
        rw [List.drop_length] at ef
        exact done s l r2 (by cases ef; rfl)
end
end Pi

end
section
set_option Elab.async false
set_option linter.all false
set_option maxRecDepth 100000
set_option maxHeartbeats 1000000
namespace Pi
open PySem PySem.Spec PyProof.Rows L2
/-! ### does a tree of the interpreter tell an expression of the program? -/
structure Ck where
  N : List Str
  gs : List Str
  fs : List (Str × Nat)
  kw : List (Nat × Nat × List Str × List Nat)
  bl : List Str
def glB (sc : Scope) (x : Str) : Bool := sc.names.lookup x == some .globalImplicit
def nmB (x : Str) : Bool := !(x == ("__debug__" : Str)) && !(x == ("__classdict__" : Str))
def visB (sc : Scope) (x : Str) : Bool := match sc.names.lookup x with
  | some .local => true
  | some .cell => true
  | some .free => true
  | _ => false
def stB (sc rs : Scope) (x : Str) : Bool := match sc.names.lookup x with
  | some .local => true
  | some .cell => rs.names.lookup x == some .cell
  | _ => false
def bltB (C : Ck) (sc : Scope) (x : Str) : Bool := glB sc x && C.bl.contains x
def opB : Bop → Operator
  | .add => .Add | .sub => .Sub | .mul => .Mult | .fdiv => .FloorDiv | .mod => .Mod | .pow => .Pow
mutual
def chkT (C : Ck) (sc rs : Scope) : Tg → Expr → Bool
  | .n i, x => (match x with
    | .Name y _ => C.N[i]? == some y && stB sc rs y
    | _ => false)
  | .t ts, x => (match x with
    | .Tuple l _ _ => chkTs C sc rs ts l
    | _ => false)
def chkTs (C : Ck) (sc rs : Scope) : Tgs → List Expr → Bool
  | .nil, l => l.isEmpty
  | .cons t ts, l => (match l with
    | x :: l => chkT C sc rs t x && chkTs C sc rs ts l
    | [] => false)
end
def tysB (C : Ck) (sc : Scope) : List Ty → List Expr → Bool
  | [], l => l.isEmpty
  | t :: ts, l => (match l with
    | .Name y _ :: l => y == t.id && bltB C sc y && tysB C sc ts l
    | _ => false)
/-- a comprehension's block -/
def blkB (C : Ck) (sc scope : Scope) (vs : List Nat) : Bool :=
  decide (scope.kind = .function) && scope.names.all (fun y => scope.names.lookup y.1 == some y.2 &&
    (if y.2 == .free then sc.names.lookup y.1 == some .cell || sc.names.lookup y.1 == some .free else true) &&
    (if y.2 == .local || y.2 == .cell then (vs.any (fun i => C.N[i]? == some y.1) || !(C.N.contains y.1)) else true)) && vs.all (fun i => decide (i < C.N.length))
def ownOf (N : List Str) (vs : List Nat) : List (Str × Nat) := vs.map fun i => (N.getD i "", i)
/-- no conditional expression is tested -/
def noIt : E → Bool
  | .ite .. => false
  | .and a b => noIt a && noIt b
  | .or a b => noIt a && noIt b
  | .not a => noIt a
  | _ => true
def kwB : List (Nat × Nat × List Str × List Nat) → Nat → Nat → List (Option Str) → List Nat → Bool
  | [], _, _, _, _ => false
  | (a, b, c, d) :: r, f, n, ks, pm => (decide (a = f) && decide (b = n) && decide (ks = c.map some) && decide (d = pm)) || kwB r f n ks pm
mutual
def chkE (C : Ck) : E → Scope → Scope → Expr → Bool
  | .non, sc, rs, x => (match x with | .Constant .none _ _ => true | _ => false)
  | .bl b, sc, rs, x => (match x with | .Constant (.bool c) _ _ => b == c | _ => false)
  | .int i, sc, rs, x => (match x with | .Constant (.int j) _ _ => decide (i = j) | _ => false)
  | .str s, sc, rs, x => (match x with | .Constant (.str t) _ _ => decide (s = t) | _ => false)
  | .v i, sc, rs, x => (match x with | .Name y _ => C.N[i]? == some y && visB sc y && nmB y | _ => false)
  | .g i, sc, rs, x => (match x with | .Name y _ => C.gs[i]? == some y && glB sc y && nmB y | _ => false)
  | .tup es, sc, rs, x => (match x with | .Tuple l _ _ => chkEs C es sc rs l | _ => false)
  | .lst es, sc, rs, x => (match x with | .List l _ => chkEs C es sc rs l | _ => false)
  | .bin op a b, sc, rs, x => (match x with | .BinOp l o r _ => decide (o = opB op) && chkE C a sc rs l && chkE C b sc rs r | _ => false)
  | .neg a, sc, rs, x => (match x with | .UnaryOp .USub y _ => chkE C a sc rs y | _ => false)
  | .rep a b, sc, rs, x => (match x with | .BinOp l .Mult r _ => chkE C a sc rs l && chkE C b sc rs r | _ => false)
  | .cmp op a b, sc, rs, x => (match x with | .Compare l [o] [r] _ => decide (o = opC op) && nice r && chkE C a sc rs l && chkE C b sc rs r | _ => false)
  | .chain o o' a b c, sc, rs, x => (match x with | .Compare l [p, p'] [m, r] _ => decide (p = opC o) && decide (p' = opC o') && nice r && chkE C a sc rs l && chkE C b sc rs m && chkE C c sc rs r | _ => false)
  | .isN a, sc, rs, x => (match x with | .Compare l [.Is] [.Constant .none _ _] _ => chkE C a sc rs l | _ => false)
  | .isnN a, sc, rs, x => (match x with | .Compare l [.IsNot] [.Constant .none _ _] _ => chkE C a sc rs l | _ => false)
  | .and a b, sc, rs, x => (match x with
    | .BoolOp .And [l, r] _ => chkE C a sc rs l && chkE C b sc rs r
    | .BoolOp .And (l :: m :: r :: rest) p => chkE C a sc rs l && chkE C b sc rs (.BoolOp .And (m :: r :: rest) p)
    | _ => false)
  | .or a b, sc, rs, x => (match x with
    | .BoolOp .Or [l, r] _ => chkE C a sc rs l && chkE C b sc rs r
    | .BoolOp .Or (l :: m :: r :: rest) p => chkE C a sc rs l && chkE C b sc rs (.BoolOp .Or (m :: r :: rest) p)
    | _ => false)
  | .not a, sc, rs, x => (match x with | .UnaryOp .Not y _ => chkE C a sc rs y | _ => false)
  | .ite c a b, sc, rs, x => (match x with | .IfExp t y z _ => noIt c && chkE C c sc rs t && chkE C a sc rs y && chkE C b sc rs z | _ => false)
  | .ix a i, sc, rs, x => (match x with | .Subscript y z _ => nice z && chkE C a sc rs y && chkE C i sc rs z | _ => false)
  | .bx i k, sc, rs, x => (match x with | .Subscript (.Name y _) z _ => C.N[i]? == some y && visB sc y && nmB y && nice z && chkE C k sc rs z | _ => false)
  | .sl a lo hi, sc, rs, x => (match x with | .Subscript y (.Slice l u none _) _ => chkE C a sc rs y && chkO C lo sc rs l && chkO C hi sc rs u | _ => false)
  | .rev a, sc, rs, x => (match x with | .Subscript y (.Slice none none (some (.UnaryOp .USub (.Constant (.int k) _ _) _)) _) _ => decide (k = 1) && chkE C a sc rs y | _ => false)
  | .call f es, sc, rs, x => (match x with | .Call (.Name y _) l [] _ => C.fs[f]? == some (y, l.length) && glB sc y && nmB y && chkEs C es sc rs l | _ => false)
  | .callk f es ks pm, sc, rs, x => (match x with | .Call (.Name y _) l kws _ => (match C.fs[f]? with | some (z, _) => z == y | none => false) && glB sc y && nmB y && chkEs C es sc rs l && chkKs C ks sc rs kws && kwB C.kw f l.length (kwNames kws) pm | _ => false)
  | .f1 f a, sc, rs, x => (match x with | .Call (.Name y _) [z] [] _ => decide (y = f.name.1) && bltB C sc y && (if f = .sset ∨ f = .lset then (match z with | .Call (.Name y2 _) [z2] [] _ => decide (y2 = "set") && bltB C sc y2 && nice z2 && chkE C a sc rs z2 | _ => false) else nice z && chkE C a sc rs z) | _ => false)
  | .f2 f a b, sc, rs, x => (match x with | .Call (.Name y _) [z, w] [] _ => decide (y = f.name) && bltB C sc y && nice z && nice w && chkE C a sc rs z && chkE C b sc rs w | _ => false)
  | .m1 m a b, sc, rs, x => (match x with | .Call (.Attribute o nm ap) [y] [] cp => decide (nm = m.name) && decide (ap.endLine = cp.line) && plainO o && nice y && chkE C a sc rs o && chkE C b sc rs y | _ => false)
  | .idx a b, sc, rs, x => (match x with | .Call (.Attribute o nm ap) [y] [] cp => decide (nm = "index") && decide (ap.endLine = cp.line) && plainO o && nice y && chkE C a sc rs o && chkE C b sc rs y | _ => false)
  | .dzip a b, sc, rs, x => (match x with | .Call (.Name y _) [.Call (.Name y2 _) [u, w] [] _] [] _ => decide (y = "dict") && bltB C sc y && decide (y2 = "zip") && bltB C sc y2 && nice u && nice w && chkE C a sc rs u && chkE C b sc rs w | _ => false)
  | .dnew t, sc, rs, x => (match x with | .Dict [] [] _ => true | _ => false)
  | .dget2 a k d, sc, rs, x => (match x with | .Call (.Attribute o nm ap) [y, z] [] cp => decide (nm = "get") && decide (ap.endLine = cp.line) && plainO o && nice y && nice z && chkE C a sc rs o && chkE C k sc rs y && chkE C d sc rs z | _ => false)
  | .isi a ts, sc, rs, x => (match x with
    | .Call (.Name y _) [z, .Name u p] [] _ => decide (y = "isinstance") && bltB C sc y && nice z && decide (ts.length = 1) && tysB C sc ts [.Name u p] && chkE C a sc rs z
    | .Call (.Name y _) [z, .Tuple l _ _] [] _ => decide (y = "isinstance") && bltB C sc y && nice z && decide (ts.length ≤ SL) && tysB C sc ts l && chkE C a sc rs z
    | _ => false)
  | .trg a, sc, rs, x => (match x with | .Call (.Name y _) [.Call (.Name u _) [z] [] _] [] _ => decide (y = "tuple") && bltB C sc y && decide (u = "range") && bltB C sc u && nice z && chkE C a sc rs z | _ => false)
  | .lrg a, sc, rs, x => (match x with | .Call (.Name y _) [.Call (.Name u _) [z] [] _] [] _ => decide (y = "list") && bltB C sc y && decide (u = "range") && bltB C sc u && nice z && chkE C a sc rs z | _ => false)
  | .lrg2 a b, sc, rs, x => (match x with | .Call (.Name y _) [.Call (.Name u _) [z, w] [] _] [] _ => decide (y = "list") && bltB C sc y && decide (u = "range") && bltB C sc u && nice z && nice w && chkE C a sc rs z && chkE C b sc rs w | _ => false)
  | .lc vs e t it c, sc, rs, x => (match x with
    | .ListComp elt [⟨tg, iter, ifs, 0⟩] scope _ => blkB C sc scope vs && (slots t).all (fun i => vs.contains i) && nice iter && chkT C (relS scope sc) scope t tg && chkI C it sc rs tg iter && chkC C c (relS scope sc) scope ifs && chkE C e (relS scope sc) scope elt
    | _ => false)
  | .lc2 vs ws e t it c t' it' c', sc, rs, x => (match x with
    | .ListComp elt [⟨tg, iter, ifs, 0⟩, ⟨tg1, iter1, ifs1, 0⟩] scope _ => blkB C sc scope vs && (slots t).all (fun i => vs.contains i) && (slots t').all (fun i => ws.contains i) && ws.all (fun i => vs.contains i) && nice iter && nice iter1 &&
        chkT C (relS scope sc) scope t tg && chkI C it sc rs tg iter && chkC C c (relS scope sc) scope ifs && chkT C (relS scope sc) scope t' tg1 && chkI C it' (relS scope sc) scope tg1 iter1 && chkC C c' (relS scope sc) scope ifs1 && chkE C e (relS scope sc) scope elt
    | _ => false)
def chkEs (C : Ck) : Es → Scope → Scope → List Expr → Bool
  | .nil, sc, rs, l => l.isEmpty
  | .cons e es, sc, rs, l => (match l with | x :: l => nice x && chkE C e sc rs x && chkEs C es sc rs l | [] => false)
def chkKs (C : Ck) : Es → Scope → Scope → List Keyword → Bool
  | .nil, sc, rs, l => l.isEmpty
  | .cons e es, sc, rs, l => (match l with | ⟨_, x, _⟩ :: l => chkE C e sc rs x && chkKs C es sc rs l | [] => false)
def chkO (C : Ck) : Oe → Scope → Scope → Option Expr → Bool
  | .no, sc, rs, o => o.isNone
  | .yes e, sc, rs, o => (match o with | some x => chkE C e sc rs x | none => false)
def chkC (C : Ck) : Oe → Scope → Scope → List Expr → Bool
  | .no, sc, rs, l => l.isEmpty
  | .yes e, sc, rs, l => (match l with | [x] => noIt e && chkE C e sc rs x | _ => false)
def chkI (C : Ck) : It → Scope → Scope → Expr → Expr → Bool
  | .of e, sc, rs, tg, x => chkE C e sc rs x
  | .rng1 a, sc, rs, tg, x => (match x with | .Call (.Name y _) [z] [] _ => decide (y = "range") && bltB C sc y && nice z && chkE C a sc rs z | _ => false)
  | .rng2 a b, sc, rs, tg, x => (match x with | .Call (.Name y _) [z, w] [] _ => decide (y = "range") && bltB C sc y && nice z && nice w && chkE C a sc rs z && chkE C b sc rs w | _ => false)
  | .rng3 a b c, sc, rs, tg, x => (match x with | .Call (.Name y _) [z, w, u] [] _ => decide (y = "range") && bltB C sc y && nice z && nice w && nice u && chkE C a sc rs z && chkE C b sc rs w && chkE C c sc rs u | _ => false)
  | .enm a, sc, rs, tg, x => (match tg with
    | .Tuple _ _ _ => (match x with | .Call (.Name y _) [z] [] _ => decide (y = "enumerate") && bltB C sc y && nice z && chkE C a sc rs z | _ => false)
    | _ => false)
  | .zip a b, sc, rs, tg, x => (match tg with
    | .Tuple _ _ _ => (match x with | .Call (.Name y _) [z, w] [] _ => decide (y = "zip") && bltB C sc y && nice z && nice w && chkE C a sc rs z && chkE C b sc rs w | _ => false)
    | _ => false)
end
end Pi

end
section
set_option Elab.async false
set_option linter.all false
set_option maxRecDepth 100000
set_option maxHeartbeats 1000000
namespace Pi
open PySem PySem.Spec PyProof.Rows L2
/-- what a context is to hold for the table -/
structure XOk (C : Ck) (gl : Nat → Option D) (cf : Cf) (X : Cx) (sc rs : Scope) : Prop where
  calm : X.calm = true
  nd : X.N.Nodup
  N : X.N = C.N
  sc : X.env.scope = sc
  fn : ∀ x, (rs.names.lookup x == some .cell) = true → X.fn x = true
  un : X.A.units + 66 < cLine
  blt : ∀ x, C.bl.contains x = true → X.mg x = none
  con : ∀ i x, C.gs[i]? = some x → ∃ d v u, gl i = some d ∧ X.mg x = some u ∧ RelV v u ∧ ∀ B H, Rp X.K B H v d
  fns : ∀ i nm n, C.fs[i]? = some (nm, n) → ∃ k fa fd ps, ps.length = n ∧ FnOk X.prog X.w X.K X.mg X.base CX0 k fa fd ps (spF X.K (cf i) ps.length) ∧ Room k X.A ∧ X.mg nm = some (.ref fa) ∧ PySem.W.keepIn X.K (.ref fa) = true ∧ Binds X.K fd ps [] ∧
    (∀ ws st r, cf i ws st = some r → ws.length = ps.length) ∧ ∀ m ks pm, (i, m, ks, pm) ∈ C.kw → KwOk X.K fd ps m ks pm
section
variable {C : Ck} {gl : Nat → Option D} {cf : Cf} {X : Cx} {sc rs : Scope}
theorem XOk.blk (ok : XOk C gl cf X sc rs) (s : Shared) (H : Hp) (scope : Scope) (Cd : Addr) (cl : List (Str × Addr)) (fp : List Addr) : XOk C gl cf (X.blk s H scope (compEnvC scope cl Cd X.env) fp) (relS scope sc) scope :=
  ⟨ok.calm, ok.nd, ok.N, by rw [← ok.sc]; rfl, fun _ h => h, ok.un, ok.blt, ok.con, ok.fns⟩
theorem XOk.u64 (ok : XOk C gl cf X sc rs) : X.A.units + 64 < cLine := by have := ok.un; omega
theorem gl_of (ok : XOk C gl cf X sc rs) {x : Str} (h : glB sc x = true) : Gl X x := by
  show X.env.scope.names.lookup x = _
  rw [ok.sc]
  exact of_decide_eq_true (by simpa [glB] using h)
theorem vis_of (ok : XOk C gl cf X sc rs) {x : Str} (h : visB sc x = true) : Vis X.env.scope x := by
  rw [ok.sc]
  unfold visB at h
  unfold Vis
  split at h
  · exact .inl ‹_›
  · exact .inr (.inl ‹_›)
  · exact .inr (.inr ‹_›)
  · cases h
theorem nm_of {x : Str} (h : nmB x = true) : (x == ("__debug__" : Str)) = false ∧ (x == ("__classdict__" : Str)) = false := by
  unfold nmB at h
  simpa using h
theorem st_of' (ok : XOk C gl cf X sc rs) {x : Str} (h : stB sc rs x = true) : StN X x := by
  unfold StN L2.Loc
  rw [ok.sc]
  unfold stB at h
  split at h
  · rename_i e; rw [e]; exact ⟨.inl rfl, .inr rfl⟩
  · rename_i e; rw [e]; exact ⟨.inr rfl, .inl (ok.fn _ h)⟩
  · cases h
theorem blt_of (ok : XOk C gl cf X sc rs) {x : Str} (h : bltB C sc x = true) : Gl X x ∧ X.mg x = none := by
  unfold bltB at h
  rw [Bool.and_eq_true] at h
  exact ⟨gl_of ok h.1, ok.blt x h.2⟩
theorem nth_of (ok : XOk C gl cf X sc rs) {i : Nat} {x : Str} (h : (C.N[i]? == some x) = true) : X.N[i]? = some x := by
  rw [ok.N]
  simpa using h
mutual
theorem chkT_ok (ok : XOk C gl cf X sc rs) : ∀ (t : Tg) (x : Expr), chkT C sc rs t x = true → TgX X.N (StN X) t x
  | .n i, x, h => by
    unfold chkT at h
    split at h
    · rw [Bool.and_eq_true] at h
      exact .n (nth_of ok h.1) (st_of' ok h.2)
    · cases h
  | .t ts, x, h => by
    unfold chkT at h
    split at h
    · exact .t (chkTs_ok ok ts _ h)
    · cases h
theorem chkTs_ok (ok : XOk C gl cf X sc rs) : ∀ (t : Tgs) (x : List Expr), chkTs C sc rs t x = true → TgsX X.N (StN X) t x
  | .nil, l, h => by
    cases l with
    | nil => exact .nil
    | cons a b => cases h
  | .cons t ts, l, h => by
    cases l with
    | nil => cases h
    | cons a b =>
      have h : (chkT C sc rs t a && chkTs C sc rs ts b) = true := h
      rw [Bool.and_eq_true] at h
      exact .cons (chkT_ok ok t a h.1) (chkTs_ok ok ts b h.2)
end
theorem tys_of (ok : XOk C gl cf X sc rs) : ∀ (ts : List Ty) (l : List Expr), tysB C sc ts l = true → Tys X ts l
  | [], l, h => by
    cases l with
    | nil => exact .nil
    | cons a b => cases h
  | t :: ts, l, h => by
    unfold tysB at h
    split at h
    · simp only [Bool.and_eq_true, beq_iff_eq] at h
      obtain ⟨⟨rfl, h2⟩, h3⟩ := h
      exact .cons (blt_of ok h2).1 (blt_of ok h2).2 (tys_of ok ts _ h3)
    · cases h
theorem blk_of (ok : XOk C gl cf X sc rs) {scope : Scope} {vs : List Nat} (h : blkB C sc scope vs = true) : BlkOk X.N X.env.scope scope (ownOf C.N vs) ∧ (ownOf C.N vs).map (·.2) = vs := by
  unfold blkB at h
  simp only [Bool.and_eq_true, decide_eq_true_eq, List.all_eq_true] at h
  obtain ⟨⟨h1, h2⟩, h3⟩ := h
  refine ⟨⟨h1, fun y hy => ?_, fun p hp => ?_, fun y hy e => ?_, fun y hy e => ?_⟩, ?_⟩
  · have := (h2 y hy).1.1
    simpa using this
  · obtain ⟨i, hi, rfl⟩ := List.mem_map.mp hp
    rw [ok.N]
    show C.N[i]? = some (C.N.getD i "")
    rw [List.getD_eq_getElem?_getD, List.getElem?_eq_getElem (h3 i hi)]; rfl
  · have := (h2 y hy).1.2
    rw [ok.sc]
    rw [e] at this
    simpa using this
  · have := (h2 y hy).2
    have ha : (vs.any (fun i => C.N[i]? == some y.1) || !(C.N.contains y.1)) = true := by
      rcases e with e | e <;> (rw [e] at this; simpa using this)
    rw [Bool.or_eq_true] at ha
    rcases ha with ha | ha
    · left
      obtain ⟨i, hi, e2⟩ := List.any_eq_true.mp ha
      have e2 : C.N[i]? = some y.1 := by simpa using e2
      refine List.mem_map.mpr ⟨(y.1, i), List.mem_map.mpr ⟨i, hi, ?_⟩, rfl⟩
      rw [List.getD_eq_getElem?_getD, e2]; rfl
    · right
      rw [ok.N]
      simpa using ha
  · unfold ownOf
    rw [List.map_map]
    show vs.map (fun i => i) = vs
    simp
theorem kwB_of : ∀ {l : List (Nat × Nat × List Str × List Nat)} {f n : Nat} {ks : List (Option Str)} {pm : List Nat}, kwB l f n ks pm = true → ∃ c, (f, n, c, pm) ∈ l ∧ ks = c.map some
  | [], _, _, _, _, h => by cases h
  | (a, b, c, d) :: r, f, n, ks, pm, h => by
    unfold kwB at h
    simp only [Bool.or_eq_true, Bool.and_eq_true, decide_eq_true_eq] at h
    rcases h with ⟨⟨⟨rfl, rfl⟩, h⟩, rfl⟩ | h
    · exact ⟨c, List.mem_cons_self, h⟩
    · obtain ⟨c', h1, h2⟩ := kwB_of h
      exact ⟨c', List.mem_cons_of_mem _ h1, h2⟩
def esLen : Es → Nat
  | .nil => 0
  | .cons _ es => esLen es + 1
theorem eva_len : ∀ (es : Es) {env : Ev} {st s : Sto} {ws : List Vl}, eva gl cf es env st = some (ws, s) → ws.length = esLen es
  | .nil, env, st, s, ws, e => by cases e; rfl
  | .cons x es, env, st, s, ws, e => by
    obtain ⟨w, s1, e1, e⟩ := bnd_eq (show bnd (ev gl cf x env st) (fun x s => bnd (eva gl cf es env s) fun xs s' => some (argV x :: xs, s')) = some (ws, s) from e)
    obtain ⟨ws', s2, e2, e⟩ := bnd_eq e
    cases e
    exact congrArg (· + 1) (eva_len es e2)
theorem chkEs_len : ∀ (es : Es) (l : List Expr), chkEs C es sc rs l = true → l.length = esLen es ∧ ∀ a ∈ l, nice a = true
  | .nil, l, h => by
    cases l with
    | nil => exact ⟨rfl, fun _ z => nomatch z⟩
    | cons a b => cases h
  | .cons e es, l, h => by
    cases l with
    | nil => cases h
    | cons a b =>
      have h : (nice a && chkE C e sc rs a && chkEs C es sc rs b) = true := h
      simp only [Bool.and_eq_true] at h
      obtain ⟨h1, h2⟩ := chkEs_len es b h.2
      refine ⟨congrArg (· + 1) h1, fun c hc => ?_⟩
      rcases List.mem_cons.mp hc with rfl | hc
      · exact h.1.1
      · exact h2 c hc
theorem chkKs_len : ∀ (es : Es) (l : List Keyword), chkKs C es sc rs l = true → l.length = esLen es
  | .nil, l, h => by
    cases l with
    | nil => rfl
    | cons a b => cases h
  | .cons e es, l, h => by
    cases l with
    | nil => cases h
    | cons a b =>
      obtain ⟨n, x, p⟩ := a
      have h : (chkE C e sc rs x && chkKs C es sc rs b) = true := h
      simp only [Bool.and_eq_true] at h
      exact congrArg (· + 1) (chkKs_len es b h.2)
/-- a name that is only read -/
theorem sndB (ok : XOk C gl cf X sc rs) {e : E} {x : Expr} (h : chkE C e sc rs x = true) (he : PE X x (SemE X.K (ev gl cf e))) : PE X x (SemB X.K fun env st => bor e (ev gl cf e env st) env st) := by
  cases e with
  | v i =>
    unfold chkE at h
    split at h
    · simp only [Bool.and_eq_true] at h
      obtain ⟨⟨h1, h2⟩, h3⟩ := h
      exact sb_var (r := none) (nth_of ok h1) (vis_of ok h2) (nm_of h3).1 (nm_of h3).2
    · cases h
  | _ => exact semB_of (semD_of he)
/-- what is not a name -/
theorem sndB0 {z : L2.St → Ev → Addr → Prop} {e : E} {x : Expr} (h : isV e = false) (he : PE X x (SemE X.K (ev gl cf e))) : PE X x (SemBZ z X.K fun env st => bor e (ev gl cf e env st) env st) := by
  cases e with
  | v i => cases h
  | _ => exact semB_of (semD_of he)
end
end Pi

end
section
set_option Elab.async false
set_option linter.all false
set_option maxRecDepth 100000
set_option maxHeartbeats 4000000
namespace Pi
open PySem PySem.Spec PyProof.Rows L2
section
variable {C : Ck} {gl : Nat → Option D} {cf : Cf}
theorem bor_of {e : E} {env : Ev} {st : Sto} {r : D × Sto} (h : toD (ev gl cf e env st) = some r) : bor e (ev gl cf e env st) env st = some r := by
  cases e with
  | v i =>
    show (match look env i with | .sh x => some (x, st) | .ow x => some (x, st) | .lk x => some (x, st) | _ => none) = some r
    have h : toD (match look env i with | .sh x => some (.d x, st) | .rf n => some (.rf n, st) | _ => none) = some r := h
    cases hl : look env i with
    | sh x => rw [hl] at h; exact h
    | no => rw [hl] at h; cases h
    | ow x => rw [hl] at h; cases h
    | lk x => rw [hl] at h; cases h
    | rf n => rw [hl] at h; cases h
  | _ => exact h
theorem tru_of {f : Option (D × Sto)} {x : D} {s s2 : Sto} {k : Bool} (h : f = some (x, s)) (g : ret (truD x) s = some (k, s2)) : tru f = some (k, s2) := by
  rw [h]; exact g
theorem tru_bor {e : E} {env : Ev} {st : Sto} {k : Bool} {s : Sto} (h : tru (toD (ev gl cf e env st)) = some (k, s)) : tru (bor e (ev gl cf e env st) env st) = some (k, s) := by
  obtain ⟨x, s1, e1, e2⟩ := bnd_eq h
  exact tru_of (bor_of e1) e2
theorem piZ {X : Cx} {tg x : Expr} {z : L2.St → Ev → Addr → Prop} {g : Ev → Sto → Option (List D × Sto)} (h : PI X tg x (SemIZ z X.K g)) (g' : Ev → Sto → Option (List D × Sto)) (e : ∀ env st r, g' env st = some r → g env st = some r) : PI X tg x (SemIZ z X.K g') :=
  piImp h fun σ H Q ⟨M, U, st, env, xs, s, er, ex, q⟩ => ⟨M, U, st, env, xs, s, er, e _ _ _ ex, q⟩
theorem opB_eq (b : Bop) : opB b = (match b with | .add => .Add | .sub => .Sub | .mul => .Mult | .fdiv => .FloorDiv | .mod => .Mod | .pow => .Pow) := by cases b <;> rfl
theorem opC_eq (c : Cop) : opC c = (match c with | .eq => .Eq | .ne => .NotEq | .lt => .Lt | .le => .LtE | .gt => .Gt | .ge => .GtE | .isin => .In | .notin => .NotIn) := by cases c <;> rfl
abbrev hB {X : Cx} (e : E) (x : Expr) : Prop := PE X x (SemB X.K fun env st => bor e (ev gl cf e env st) env st)
def isBo : E → Bool
  | .and .. => true
  | .or .. => true
  | _ => false
theorem chk_bo {e : E} {sc rs : Scope} {o : BoolOp} {l : List Expr} {p : Pos} (h : chkE C e sc rs (.BoolOp o l p) = true) : isBo e = true := by
  cases e <;> first | rfl | (unfold chkE at h; cases h)
abbrev TruE (gl : Nat → Option D) (cf : Cf) (K : PySem.W.Frag) (e : E) : TT := SemT K fun env st => tru (bor e (ev gl cf e env st) env st)
mutual
theorem sndE : ∀ (e : E) {X : Cx} {sc rs : Scope} {x : Expr}, XOk C gl cf X sc rs → chkE C e sc rs x = true → PE X x (SemE X.K (ev gl cf e))
  | .non, X, sc, rs, x, ok, h => by
    unfold chkE at h; split at h
    · exact se_const pe_non fun _ _ => .non
    · cases h
  | .bl b, X, sc, rs, x, ok, h => by
    unfold chkE at h; split at h
    · cases (beq_iff_eq.mp h)
      exact se_const pe_bl fun _ _ => .bl _
    · cases h
  | .int i, X, sc, rs, x, ok, h => by
    unfold chkE at h; split at h
    · cases (of_decide_eq_true h)
      exact se_const pe_int fun _ _ => .int _
    · cases h
  | .str s, X, sc, rs, x, ok, h => by
    unfold chkE at h; split at h
    · cases (of_decide_eq_true h)
      exact se_const pe_str fun _ _ => .str _
    · cases h
  | .v i, X, sc, rs, x, ok, h => by
    unfold chkE at h; split at h
    · simp only [Bool.and_eq_true] at h
      obtain ⟨⟨h1, h2⟩, h3⟩ := h
      exact se_var (nth_of ok h1) (vis_of ok h2) (nm_of h3).1 (nm_of h3).2
    · cases h
  | .g i, X, sc, rs, x, ok, h => by
    unfold chkE at h; split at h
    · simp only [Bool.and_eq_true] at h
      obtain ⟨⟨h1, h2⟩, h3⟩ := h
      obtain ⟨d, v, u, e1, e2, e3, e4⟩ := ok.con i _ (beq_iff_eq.mp h1)
      refine peImp (se_const (pe_glob (gl_of ok h2) e2 e3 (nm_of h3).1) e4) fun σ H Q ⟨M, U, st, env, w, s, er, ex, q⟩ => ⟨M, U, st, env, w, s, er, ?_, q⟩
      rw [← ex]
      show some (Vl.d d, st) = ret ((gl i).map Vl.d) st
      rw [e1]; rfl
    · cases h
  | .tup es, X, sc, rs, x, ok, h => by
    unfold chkE at h; split at h
    · exact se_tup (sndL es ok h)
    · cases h
  | .lst es, X, sc, rs, x, ok, h => by
    unfold chkE at h; split at h
    · exact se_lst (sndL es ok h)
    · cases h
  | .bin op a b, X, sc, rs, x, ok, h => by
    unfold chkE at h; split at h
    · simp only [Bool.and_eq_true, decide_eq_true_eq] at h
      obtain ⟨⟨h1, h2⟩, h3⟩ := h
      exact se_bin (h1.trans (opB_eq op)) (sndB ok h2 (sndE a ok h2)) (sndB ok h3 (sndE b ok h3))
    · cases h
  | .neg a, X, sc, rs, x, ok, h => by
    unfold chkE at h; split at h
    · exact se_neg (sndB ok h (sndE a ok h))
    · cases h
  | .rep a b, X, sc, rs, x, ok, h => by
    unfold chkE at h; split at h
    · simp only [Bool.and_eq_true] at h
      exact se_rep (sndE a ok h.1) (sndB ok h.2 (sndE b ok h.2))
    · cases h
  | .cmp op a b, X, sc, rs, x, ok, h => by
    unfold chkE at h; split at h
    · simp only [Bool.and_eq_true, decide_eq_true_eq] at h
      obtain ⟨⟨⟨h1, hn⟩, h2⟩, h3⟩ := h
      exact se_cmp (h1.trans (opC_eq op)) ok.u64 hn (sndB ok h2 (sndE a ok h2)) (sndB ok h3 (sndE b ok h3))
    · cases h
  | .chain o o' a b c, X, sc, rs, x, ok, h => by
    unfold chkE at h; split at h
    · simp only [Bool.and_eq_true, decide_eq_true_eq] at h
      obtain ⟨⟨⟨⟨⟨rfl, rfl⟩, hn⟩, h2⟩, h3⟩, h4⟩ := h
      exact se_chain ok.u64 hn (sndB ok h2 (sndE a ok h2)) (sndB ok h3 (sndE b ok h3)) (sndB ok h4 (sndE c ok h4))
    · cases h
  | .isN a, X, sc, rs, x, ok, h => by
    unfold chkE at h; split at h
    · exact se_isN (sndB ok h (sndE a ok h))
    · cases h
  | .isnN a, X, sc, rs, x, ok, h => by
    unfold chkE at h; split at h
    · exact se_isnN (sndB ok h (sndE a ok h))
    · cases h
  | .and a b, X, sc, rs, x, ok, h => by
    unfold chkE at h; split at h
    · simp only [Bool.and_eq_true] at h
      exact se_and (semD_of (sndE a ok h.1)) (se_one (sndE b ok h.2))
    · simp only [Bool.and_eq_true] at h
      exact se_and (semD_of (sndE a ok h.1)) (sndE b ok h.2)
    · cases h
  | .or a b, X, sc, rs, x, ok, h => by
    unfold chkE at h; split at h
    · simp only [Bool.and_eq_true] at h
      exact se_or (sndE a ok h.1) (se_one (sndE b ok h.2))
    · simp only [Bool.and_eq_true] at h
      exact se_or (sndE a ok h.1) (sndE b ok h.2)
    · cases h
  | .not a, X, sc, rs, x, ok, h => by
    unfold chkE at h; split at h
    · exact se_not (sndB ok h (sndE a ok h))
    · cases h
  | .ite c a b, X, sc, rs, x, ok, h => by
    unfold chkE at h; split at h
    · simp only [Bool.and_eq_true] at h
      obtain ⟨⟨⟨h1, h2⟩, h3⟩, h4⟩ := h
      exact se_ite (sndT c ok h1 h2 (sndE c ok h2)).1 (sndE a ok h3) (sndE b ok h4)
    · cases h
  | .ix a i, X, sc, rs, x, ok, h => by
    unfold chkE at h; split at h
    · simp only [Bool.and_eq_true] at h
      obtain ⟨⟨h1, h2⟩, h3⟩ := h
      exact se_ix (by have := ok.un; omega) h1 (sndB ok h2 (sndE a ok h2)) (sndB ok h3 (sndE i ok h3))
    · cases h
  | .bx i k, X, sc, rs, x, ok, h => by
    unfold chkE at h; split at h
    · simp only [Bool.and_eq_true] at h
      obtain ⟨⟨⟨⟨h1, h2⟩, h3⟩, h4⟩, h5⟩ := h
      exact se_bx (nth_of ok h1) (vis_of ok h2) (nm_of h3).1 (nm_of h3).2 h4 (sndB ok h5 (sndE k ok h5))
    · cases h
  | .sl a lo hi, X, sc, rs, x, ok, h => by
    unfold chkE at h; split at h
    · simp only [Bool.and_eq_true] at h
      obtain ⟨⟨h1, h2⟩, h3⟩ := h
      exact se_sl (sndB ok h1 (sndE a ok h1)) (sndO lo ok h2) (sndO hi ok h3)
    · cases h
  | .rev a, X, sc, rs, x, ok, h => by
    unfold chkE at h; split at h
    · simp only [Bool.and_eq_true, decide_eq_true_eq] at h
      obtain ⟨rfl, h⟩ := h
      exact se_rev (sndB ok h (sndE a ok h))
    · cases h
  | .call f es, X, sc, rs, x, ok, h => by
    unfold chkE at h; split at h
    · simp only [Bool.and_eq_true] at h
      obtain ⟨⟨⟨h1, h2⟩, h3⟩, h4⟩ := h
      obtain ⟨k, fa, fd, ps, hl, F, hr, hm, hk, hb, np, hkw⟩ := ok.fns f _ _ (beq_iff_eq.mp h1)
      cases es with
      | nil =>
        rename_i y0 p0 l q0
        cases l with
        | nil => exact se_call0 F hr (gl_of ok h2) hm hk hb np (nm_of h3).1
        | cons a b => cases h4
      | cons e es =>
        rename_i y0 p0 l q0
        cases l with
        | nil => cases h4
        | cons a b => exact se_call F hr (gl_of ok h2) hm hk hb np (nm_of h3).1 (chkEs_len _ _ h4).2 (sndA (.cons e es) ok h4)
    · cases h
  | .callk f es ks pm, X, sc, rs, x, ok, h => by
    unfold chkE at h; split at h
    · simp only [Bool.and_eq_true] at h
      obtain ⟨⟨⟨⟨⟨h1, h2⟩, h3⟩, h4⟩, h5⟩, h6⟩ := h
      split at h1
      · rename_i nm n hf
        cases (beq_iff_eq.mp h1)
        obtain ⟨k, fa, fd, ps, hl, F, hr, hm, hk, hb, np, hkw⟩ := ok.fns f _ _ hf
        obtain ⟨c, h7, h8⟩ := kwB_of h6
        refine se_callk F hr (gl_of ok h2) hm hk (hkw _ _ _ h7) np (nm_of h3).1 (chkEs_len _ _ h4).2 (sndA es ok h4) (sndK ks ok h5) h8 (fun env st ws s e => ?_) (fun env st ws s e => ?_) (fun hnil env st => ?_)
        · rw [eva_len es e]; exact (chkEs_len _ _ h4).1.symm
        · rw [eva_len ks e, ← chkKs_len _ _ h5]
          have := congrArg List.length h8
          unfold kwNames at this
          simpa using this
        · subst hnil
          cases es with
          | nil => rfl
          | cons a b => cases h4
      · cases h1
    · cases h
  | .f1 f a, X, sc, rs, x, ok, h => by
    unfold chkE at h; split at h
    · simp only [Bool.and_eq_true, decide_eq_true_eq] at h
      obtain ⟨⟨rfl, h2⟩, h3⟩ := h
      split at h3
      · rename_i hf
        split at h3
        · simp only [Bool.and_eq_true, decide_eq_true_eq] at h3
          obtain ⟨⟨⟨rfl, h4⟩, h5⟩, h6⟩ := h3
          rcases hf with rfl | rfl
          · exact pe_sset ok.calm ok.u64 (blt_of ok h2).1 (blt_of ok h2).2 (blt_of ok h4).1 (blt_of ok h4).2 (sndB ok h6 (sndE a ok h6)) (star1 h5 [] _)
          · exact pe_lset ok.calm ok.u64 (blt_of ok h2).1 (blt_of ok h2).2 (blt_of ok h4).1 (blt_of ok h4).2 (sndB ok h6 (sndE a ok h6)) (star1 h5 [] _)
        · cases h3
      · rename_i hf
        simp only [Bool.and_eq_true] at h3
        exact pe_f1 ok.calm ok.u64 (blt_of ok h2).1 (blt_of ok h2).2 (sndB ok h3.2 (sndE a ok h3.2)) (star1 h3.1 [] _) ⟨fun z => hf (.inl z), fun z => hf (.inr z)⟩
    · cases h
  | .f2 f a b, X, sc, rs, x, ok, h => by
    unfold chkE at h; split at h
    · simp only [Bool.and_eq_true, decide_eq_true_eq] at h
      obtain ⟨⟨⟨⟨⟨rfl, h2⟩, h3⟩, h4⟩, h5⟩, h6⟩ := h
      exact se_f2 ok.calm (blt_of ok h2).1 (blt_of ok h2).2 h3 h4 (sndB ok h5 (sndE a ok h5)) (sndB ok h6 (sndE b ok h6))
    · cases h
  | .m1 m a b, X, sc, rs, x, ok, h => by
    unfold chkE at h; split at h
    · simp only [Bool.and_eq_true, decide_eq_true_eq] at h
      obtain ⟨⟨⟨⟨⟨rfl, h2⟩, h3⟩, h4⟩, h5⟩, h6⟩ := h
      exact se_m1 h2 h3 h4 (sndB ok h5 (sndE a ok h5)) (sndB ok h6 (sndE b ok h6))
    · cases h
  | .idx a b, X, sc, rs, x, ok, h => by
    unfold chkE at h; split at h
    · simp only [Bool.and_eq_true, decide_eq_true_eq] at h
      obtain ⟨⟨⟨⟨⟨rfl, h2⟩, h3⟩, h4⟩, h5⟩, h6⟩ := h
      exact se_idx (by have := ok.un; omega) h2 h3 h4 (sndB ok h5 (sndE a ok h5)) (sndB ok h6 (sndE b ok h6))
    · cases h
  | .dzip a b, X, sc, rs, x, ok, h => by
    unfold chkE at h; split at h
    · simp only [Bool.and_eq_true, decide_eq_true_eq] at h
      obtain ⟨⟨⟨⟨⟨⟨⟨rfl, h2⟩, rfl⟩, h4⟩, h5⟩, h6⟩, h7⟩, h8⟩ := h
      exact se_dzip ok.calm (blt_of ok h2).1 (blt_of ok h2).2 (blt_of ok h4).1 (blt_of ok h4).2 h5 h6 (sndB ok h7 (sndE a ok h7)) (sndB ok h8 (sndE b ok h8))
    · cases h
  | .dnew t, X, sc, rs, x, ok, h => by
    unfold chkE at h; split at h
    · exact se_dnew
    · cases h
  | .dget2 a k d, X, sc, rs, x, ok, h => by
    unfold chkE at h; split at h
    · simp only [Bool.and_eq_true, decide_eq_true_eq] at h
      obtain ⟨⟨⟨⟨⟨⟨⟨rfl, h2⟩, h3⟩, h4⟩, h5⟩, h6⟩, h7⟩, h8⟩ := h
      exact se_dget2 (by have := ok.un; omega) h2 h3 h4 h5 (sndB ok h6 (sndE a ok h6)) (sndB ok h7 (sndE k ok h7)) (semD_of (sndE d ok h8))
    · cases h
  | .isi a ts, X, sc, rs, x, ok, h => by
    unfold chkE at h; split at h
    · simp only [Bool.and_eq_true, decide_eq_true_eq] at h
      obtain ⟨⟨⟨⟨⟨rfl, h2⟩, h3⟩, h4⟩, h5⟩, h6⟩ := h
      obtain ⟨t, rfl⟩ : ∃ t, ts = [t] := List.length_eq_one_iff.mp h4
      have := tys_of ok _ _ h5
      cases this with
      | cons g m _ => exact se_isi1 (blt_of ok h2).1 (blt_of ok h2).2 g m h3 (sndB ok h6 (sndE a ok h6))
    · simp only [Bool.and_eq_true, decide_eq_true_eq] at h
      obtain ⟨⟨⟨⟨⟨rfl, h2⟩, h3⟩, h4⟩, h5⟩, h6⟩ := h
      exact se_isiT (blt_of ok h2).1 (blt_of ok h2).2 (tys_of ok _ _ h5) h4 h3 (sndB ok h6 (sndE a ok h6))
    · cases h
  | .trg a, X, sc, rs, x, ok, h => by
    unfold chkE at h; split at h
    · simp only [Bool.and_eq_true, decide_eq_true_eq] at h
      obtain ⟨⟨⟨⟨⟨rfl, h2⟩, rfl⟩, h4⟩, h5⟩, h6⟩ := h
      exact se_trg ok.calm (blt_of ok h2).1 (blt_of ok h2).2 (blt_of ok h4).1 (blt_of ok h4).2 h5 (sndB ok h6 (sndE a ok h6))
    · cases h
  | .lrg a, X, sc, rs, x, ok, h => by
    unfold chkE at h; split at h
    · simp only [Bool.and_eq_true, decide_eq_true_eq] at h
      obtain ⟨⟨⟨⟨⟨rfl, h2⟩, rfl⟩, h4⟩, h5⟩, h6⟩ := h
      exact se_lrg ok.calm (blt_of ok h2).1 (blt_of ok h2).2 (blt_of ok h4).1 (blt_of ok h4).2 h5 (sndB ok h6 (sndE a ok h6))
    · cases h
  | .lrg2 a b, X, sc, rs, x, ok, h => by
    unfold chkE at h; split at h
    · simp only [Bool.and_eq_true, decide_eq_true_eq] at h
      obtain ⟨⟨⟨⟨⟨⟨⟨rfl, h2⟩, rfl⟩, h4⟩, h5⟩, h5b⟩, h6⟩, h7⟩ := h
      exact se_lrg2 ok.calm (blt_of ok h2).1 (blt_of ok h2).2 (blt_of ok h4).1 (blt_of ok h4).2 h5 h5b (sndB ok h6 (sndE a ok h6)) (sndB ok h7 (sndE b ok h7))
    · cases h
  | .lc vs e t it c, X, sc, rs, x, ok, h => by
    unfold chkE at h; split at h
    · simp only [Bool.and_eq_true, List.all_eq_true] at h
      obtain ⟨⟨⟨⟨⟨⟨h1, h2⟩, h3⟩, h4⟩, h5⟩, h6⟩, h7⟩ := h
      obtain ⟨b1, b2⟩ := blk_of ok h1
      exact se_lc ok.calm ok.nd (sndI it OwV (.inl rfl) ok h5) b1 b2 (fun i hi => by simpa using h2 i hi)
        (fun s H Cd cl fp => pg_T (ok.blk s H _ Cd cl fp).calm (ok.blk s H _ Cd cl fp).nd (chkT_ok (ok.blk s H _ Cd cl fp) t _ h4))
        (fun s H Cd cl fp => sndC c (ok.blk s H _ Cd cl fp) h6)
        (fun s H Cd cl fp => semD_of (sndE e (ok.blk s H _ Cd cl fp) h7)) h3
    · cases h
  | .lc2 vs ws e t it c t' it' c', X, sc, rs, x, ok, h => by
    unfold chkE at h; split at h
    · simp only [Bool.and_eq_true, List.all_eq_true] at h
      obtain ⟨⟨⟨⟨⟨⟨⟨⟨⟨⟨⟨⟨h1, h2⟩, h2b⟩, h2c⟩, h3⟩, h3b⟩, h4⟩, h5⟩, h6⟩, h7⟩, h8⟩, h9⟩, h10⟩ := h
      obtain ⟨b1, b2⟩ := blk_of ok h1
      exact se_lc2 ok.calm ok.nd (sndI it OwV (.inl rfl) ok h5) b1 b2 (fun i hi => by simpa using h2 i hi) (fun i hi => by simpa using h2b i hi) (fun i hi => by simpa using h2c i hi)
        (fun s H Cd cl fp => pg_T (ok.blk s H _ Cd cl fp).calm (ok.blk s H _ Cd cl fp).nd (chkT_ok (ok.blk s H _ Cd cl fp) t _ h4))
        (fun s H Cd cl fp => sndC c (ok.blk s H _ Cd cl fp) h6)
        (fun s H Cd cl fp => sndI it' OwV (.inl rfl) (ok.blk s H _ Cd cl fp) h8)
        (fun s H Cd cl fp => pg_T (ok.blk s H _ Cd cl fp).calm (ok.blk s H _ Cd cl fp).nd (chkT_ok (ok.blk s H _ Cd cl fp) t' _ h7))
        (fun s H Cd cl fp => sndC c' (ok.blk s H _ Cd cl fp) h9)
        (fun s H Cd cl fp => semD_of (sndE e (ok.blk s H _ Cd cl fp) h10)) h3 h3b
    · cases h
/-- the truth of an expression -/
theorem sndT : ∀ (e : E) {X : Cx} {sc rs : Scope} {x : Expr}, XOk C gl cf X sc rs → noIt e = true → chkE C e sc rs x = true → PE X x (SemE X.K (ev gl cf e)) → PT X x (TruE gl cf X.K e) ∧ (isBo e = true → PW X x (TruE gl cf X.K e))
  | .cmp op a b, X, sc, rs, x, ok, n, h, he => by
    unfold chkE at h; split at h
    · simp only [Bool.and_eq_true, decide_eq_true_eq] at h
      obtain ⟨⟨⟨h1, hn⟩, h2⟩, h3⟩ := h
      exact ⟨st_cmp (h1.trans (opC_eq op)) ok.u64 hn (sndB ok h2 (sndE a ok h2)) (sndB ok h3 (sndE b ok h3)), fun z => nomatch z⟩
    · cases h
  | .chain o o' a b c, X, sc, rs, x, ok, n, h, he => by
    unfold chkE at h; split at h
    · simp only [Bool.and_eq_true, decide_eq_true_eq] at h
      obtain ⟨⟨⟨⟨⟨rfl, rfl⟩, hn⟩, h2⟩, h3⟩, h4⟩ := h
      exact ⟨st_chain ok.u64 hn (sndB ok h2 (sndE a ok h2)) (sndB ok h3 (sndE b ok h3)) (sndB ok h4 (sndE c ok h4)), fun z => nomatch z⟩
    · cases h
  | .isN a, X, sc, rs, x, ok, n, h, he => by
    unfold chkE at h; split at h
    · exact ⟨st_isN (sndB ok h (sndE a ok h)), fun z => nomatch z⟩
    · cases h
  | .isnN a, X, sc, rs, x, ok, n, h, he => by
    unfold chkE at h; split at h
    · exact ⟨st_isnN (sndB ok h (sndE a ok h)), fun z => nomatch z⟩
    · cases h
  | .not a, X, sc, rs, x, ok, n, h, he => by
    unfold chkE at h; split at h
    · exact ⟨st_not (sndT a ok n h (sndE a ok h)).1, fun z => nomatch z⟩
    · cases h
  | .and a b, X, sc, rs, x, ok, n, h, he => by
    have n : (noIt a && noIt b) = true := n
    rw [Bool.and_eq_true] at n
    have w : PW X x (TruE gl cf X.K (.and a b)) := by
      unfold chkE at h; split at h
      · simp only [Bool.and_eq_true] at h
        exact sw_and (fun env st y k s1 s2 e1 e2 => tru_of (bor_of e1) e2) (fun env st k s e => tru_bor e) (sndT a ok n.1 h.1 (sndE a ok h.1)).1 (pw_and1 (sndT b ok n.2 h.2 (sndE b ok h.2)).1)
      · simp only [Bool.and_eq_true] at h
        exact sw_and (fun env st y k s1 s2 e1 e2 => tru_of (bor_of e1) e2) (fun env st k s e => tru_bor e) (sndT a ok n.1 h.1 (sndE a ok h.1)).1 ((sndT b ok n.2 h.2 (sndE b ok h.2)).2 (chk_bo h.2))
      · cases h
    exact ⟨w.pt, fun _ => w⟩
  | .or a b, X, sc, rs, x, ok, n, h, he => by
    have n : (noIt a && noIt b) = true := n
    rw [Bool.and_eq_true] at n
    have w : PW X x (TruE gl cf X.K (.or a b)) := by
      unfold chkE at h; split at h
      · simp only [Bool.and_eq_true] at h
        exact sw_or (fun env st k s e => tru_bor e) (fun env st k s e => tru_bor e) (sndT a ok n.1 h.1 (sndE a ok h.1)).1 (pw_or1 (sndT b ok n.2 h.2 (sndE b ok h.2)).1)
      · simp only [Bool.and_eq_true] at h
        exact sw_or (fun env st k s e => tru_bor e) (fun env st k s e => tru_bor e) (sndT a ok n.1 h.1 (sndE a ok h.1)).1 ((sndT b ok n.2 h.2 (sndE b ok h.2)).2 (chk_bo h.2))
      · cases h
    exact ⟨w.pt, fun _ => w⟩
  | .ite c a b, X, sc, rs, x, ok, n, h, he => by
    cases n
  | .non, X, sc, rs, x, ok, n, h, he => by
    have hb := sndB ok h he
    unfold chkE at h; split at h
    · exact ⟨st_of hb fun _ => rfl, fun z => nomatch z⟩
    · cases h
  | .bl b, X, sc, rs, x, ok, n, h, he => by
    have hb := sndB ok h he
    unfold chkE at h; split at h
    · exact ⟨st_of hb fun _ => rfl, fun z => nomatch z⟩
    · cases h
  | .int i, X, sc, rs, x, ok, n, h, he => by
    have hb := sndB ok h he
    unfold chkE at h; split at h
    · exact ⟨st_of hb fun _ => rfl, fun z => nomatch z⟩
    · cases h
  | .str s, X, sc, rs, x, ok, n, h, he => by
    have hb := sndB ok h he
    unfold chkE at h; split at h
    · exact ⟨st_of hb fun _ => rfl, fun z => nomatch z⟩
    · cases h
  | .v i, X, sc, rs, x, ok, n, h, he => by
    have hb := sndB ok h he
    unfold chkE at h; split at h
    · exact ⟨st_of hb fun _ => rfl, fun z => nomatch z⟩
    · cases h
  | .g i, X, sc, rs, x, ok, n, h, he => by
    have hb := sndB ok h he
    unfold chkE at h; split at h
    · exact ⟨st_of hb fun _ => rfl, fun z => nomatch z⟩
    · cases h
  | .tup es, X, sc, rs, x, ok, n, h, he => by
    have hb := sndB ok h he
    unfold chkE at h; split at h
    · exact ⟨st_of hb fun _ => rfl, fun z => nomatch z⟩
    · cases h
  | .lst es, X, sc, rs, x, ok, n, h, he => by
    have hb := sndB ok h he
    unfold chkE at h; split at h
    · exact ⟨st_of hb fun _ => rfl, fun z => nomatch z⟩
    · cases h
  | .bin op a b, X, sc, rs, x, ok, n, h, he => by
    have hb := sndB ok h he
    unfold chkE at h; split at h
    · exact ⟨st_of hb fun _ => rfl, fun z => nomatch z⟩
    · cases h
  | .neg a, X, sc, rs, x, ok, n, h, he => by
    have hb := sndB ok h he
    unfold chkE at h; split at h
    · exact ⟨st_of hb fun _ => rfl, fun z => nomatch z⟩
    · cases h
  | .rep a b, X, sc, rs, x, ok, n, h, he => by
    have hb := sndB ok h he
    unfold chkE at h; split at h
    · exact ⟨st_of hb fun _ => rfl, fun z => nomatch z⟩
    · cases h
  | .ix a i, X, sc, rs, x, ok, n, h, he => by
    have hb := sndB ok h he
    unfold chkE at h; split at h
    · exact ⟨st_of hb fun _ => rfl, fun z => nomatch z⟩
    · cases h
  | .bx i k, X, sc, rs, x, ok, n, h, he => by
    have hb := sndB ok h he
    unfold chkE at h; split at h
    · exact ⟨st_of hb fun _ => rfl, fun z => nomatch z⟩
    · cases h
  | .sl a lo hi, X, sc, rs, x, ok, n, h, he => by
    have hb := sndB ok h he
    unfold chkE at h; split at h
    · exact ⟨st_of hb fun _ => rfl, fun z => nomatch z⟩
    · cases h
  | .rev a, X, sc, rs, x, ok, n, h, he => by
    have hb := sndB ok h he
    unfold chkE at h; split at h
    · exact ⟨st_of hb fun _ => rfl, fun z => nomatch z⟩
    · cases h
  | .call f es, X, sc, rs, x, ok, n, h, he => by
    have hb := sndB ok h he
    unfold chkE at h; split at h
    · exact ⟨st_of hb fun _ => rfl, fun z => nomatch z⟩
    · cases h
  | .callk f es ks pm, X, sc, rs, x, ok, n, h, he => by
    have hb := sndB ok h he
    unfold chkE at h; split at h
    · exact ⟨st_of hb fun _ => rfl, fun z => nomatch z⟩
    · cases h
  | .f1 f a, X, sc, rs, x, ok, n, h, he => by
    have hb := sndB ok h he
    unfold chkE at h; split at h
    · exact ⟨st_of hb fun _ => rfl, fun z => nomatch z⟩
    · cases h
  | .f2 f a b, X, sc, rs, x, ok, n, h, he => by
    have hb := sndB ok h he
    unfold chkE at h; split at h
    · exact ⟨st_of hb fun _ => rfl, fun z => nomatch z⟩
    · cases h
  | .m1 m a b, X, sc, rs, x, ok, n, h, he => by
    have hb := sndB ok h he
    unfold chkE at h; split at h
    · exact ⟨st_of hb fun _ => rfl, fun z => nomatch z⟩
    · cases h
  | .idx a b, X, sc, rs, x, ok, n, h, he => by
    have hb := sndB ok h he
    unfold chkE at h; split at h
    · exact ⟨st_of hb fun _ => rfl, fun z => nomatch z⟩
    · cases h
  | .dzip a b, X, sc, rs, x, ok, n, h, he => by
    have hb := sndB ok h he
    unfold chkE at h; split at h
    · exact ⟨st_of hb fun _ => rfl, fun z => nomatch z⟩
    · cases h
  | .dnew t, X, sc, rs, x, ok, n, h, he => by
    have hb := sndB ok h he
    unfold chkE at h; split at h
    · exact ⟨st_of hb fun _ => rfl, fun z => nomatch z⟩
    · cases h
  | .dget2 a k d, X, sc, rs, x, ok, n, h, he => by
    have hb := sndB ok h he
    unfold chkE at h; split at h
    · exact ⟨st_of hb fun _ => rfl, fun z => nomatch z⟩
    · cases h
  | .isi a ts, X, sc, rs, x, ok, n, h, he => by
    have hb := sndB ok h he
    unfold chkE at h; split at h
    · exact ⟨st_of hb fun _ => rfl, fun z => nomatch z⟩
    · exact ⟨st_of hb fun _ => rfl, fun z => nomatch z⟩
    · cases h
  | .trg a, X, sc, rs, x, ok, n, h, he => by
    have hb := sndB ok h he
    unfold chkE at h; split at h
    · exact ⟨st_of hb fun _ => rfl, fun z => nomatch z⟩
    · cases h
  | .lrg a, X, sc, rs, x, ok, n, h, he => by
    have hb := sndB ok h he
    unfold chkE at h; split at h
    · exact ⟨st_of hb fun _ => rfl, fun z => nomatch z⟩
    · cases h
  | .lrg2 a b, X, sc, rs, x, ok, n, h, he => by
    have hb := sndB ok h he
    unfold chkE at h; split at h
    · exact ⟨st_of hb fun _ => rfl, fun z => nomatch z⟩
    · cases h
  | .lc vs e t it c, X, sc, rs, x, ok, n, h, he => by
    have hb := sndB ok h he
    unfold chkE at h; split at h
    · exact ⟨st_of hb fun _ => rfl, fun z => nomatch z⟩
    · cases h
  | .lc2 vs ws e t it c t' it' c', X, sc, rs, x, ok, n, h, he => by
    have hb := sndB ok h he
    unfold chkE at h; split at h
    · exact ⟨st_of hb fun _ => rfl, fun z => nomatch z⟩
    · cases h
/-- several trees -/
theorem sndL : ∀ (es : Es) {X : Cx} {sc rs : Scope} {l : List Expr}, XOk C gl cf X sc rs → chkEs C es sc rs l = true → PA X l (SemL X.K (evs gl cf es))
  | .nil, X, sc, rs, l, ok, h => by
    cases l with
    | nil => exact sl_nil
    | cons a b => cases h
  | .cons e es, X, sc, rs, l, ok, h => by
    cases l with
    | nil => cases h
    | cons a b =>
      have h : (nice a && chkE C e sc rs a && chkEs C es sc rs b) = true := h
      simp only [Bool.and_eq_true] at h
      exact sl_cons h.1.1 (semD_of (sndE e ok h.1.2)) (sndL es ok h.2)
theorem sndA : ∀ (es : Es) {X : Cx} {sc rs : Scope} {l : List Expr}, XOk C gl cf X sc rs → chkEs C es sc rs l = true → PA X l (SemA X.K (eva gl cf es))
  | .nil, X, sc, rs, l, ok, h => by
    cases l with
    | nil => exact sa_nil
    | cons a b => cases h
  | .cons e es, X, sc, rs, l, ok, h => by
    cases l with
    | nil => cases h
    | cons a b =>
      have h : (nice a && chkE C e sc rs a && chkEs C es sc rs b) = true := h
      simp only [Bool.and_eq_true] at h
      exact sa_cons h.1.1 (sndE e ok h.1.2) (sndA es ok h.2)
theorem sndK : ∀ (es : Es) {X : Cx} {sc rs : Scope} {l : List Keyword}, XOk C gl cf X sc rs → chkKs C es sc rs l = true → PK X l (SemA X.K (eva gl cf es))
  | .nil, X, sc, rs, l, ok, h => by
    cases l with
    | nil => exact sk_nil
    | cons a b => cases h
  | .cons e es, X, sc, rs, l, ok, h => by
    cases l with
    | nil => cases h
    | cons a b =>
      obtain ⟨n, x, p⟩ := a
      have h : (chkE C e sc rs x && chkKs C es sc rs b) = true := h
      simp only [Bool.and_eq_true] at h
      exact sk_cons (sndE e ok h.1) (sndK es ok h.2)
theorem sndO : ∀ (o : Oe) {X : Cx} {sc rs : Scope} {x : Option Expr}, XOk C gl cf X sc rs → chkO C o sc rs x = true → PO X x (SemO X.K (evo gl cf o))
  | .no, X, sc, rs, x, ok, h => by
    cases x with
    | none => exact so_no
    | some x => cases h
  | .yes e, X, sc, rs, x, ok, h => by
    cases x with
    | none => cases h
    | some x =>
      have h : chkE C e sc rs x = true := h
      exact so_yes (sndB ok h (sndE e ok h))
theorem sndC : ∀ (o : Oe) {X : Cx} {sc rs : Scope} {l : List Expr}, XOk C gl cf X sc rs → chkC C o sc rs l = true → PTs X l (SemT X.K (evc gl cf o))
  | .no, X, sc, rs, l, ok, h => by
    cases l with
    | nil => exact ⟨fun pins s σ H Q I ⟨M, U, st, env, b, st', er, ex, q⟩ => by
        cases ex
        exact pts_nil.run pins s σ H Q I (q H M Stp.refl er.sto)⟩
    | cons a b => cases h
  | .yes e, X, sc, rs, l, ok, h => by
    unfold chkC at h; split at h
    · rw [Bool.and_eq_true] at h
      exact pts_one (sndT e ok h.1 h.2 (sndE e ok h.2)).1
    · cases h
/-- what is walked -/
theorem sndI : ∀ (it : It) (z : L2.St → Ev → Addr → Prop), z = OwV ∨ brw it = false → ∀ {X : Cx} {sc rs : Scope} {tg x : Expr}, XOk C gl cf X sc rs → chkI C it sc rs tg x = true → PI X tg x (SemIZ z X.K (evi gl cf it))
  | .of e, z, hz, X, sc, rs, tg, x, ok, h => by
    have h : chkE C e sc rs x = true := h
    rcases hz with rfl | hz
    · exact si_of (sndB ok h (sndE e ok h))
    · exact si_of (sndB0 hz (sndE e ok h))
  | .rng1 a, z, hz, X, sc, rs, tg, x, ok, h => by
    unfold chkI at h; split at h
    · simp only [Bool.and_eq_true, decide_eq_true_eq] at h
      obtain ⟨⟨⟨rfl, h2⟩, h3⟩, h4⟩ := h
      exact si_rng1 (blt_of ok h2).1 (blt_of ok h2).2 h3 (sndB ok h4 (sndE a ok h4))
    · cases h
  | .rng2 a b, z, hz, X, sc, rs, tg, x, ok, h => by
    unfold chkI at h; split at h
    · simp only [Bool.and_eq_true, decide_eq_true_eq] at h
      obtain ⟨⟨⟨⟨⟨rfl, h2⟩, h3⟩, h4⟩, h5⟩, h6⟩ := h
      exact si_rng2 (blt_of ok h2).1 (blt_of ok h2).2 h3 h4 (sndB ok h5 (sndE a ok h5)) (sndB ok h6 (sndE b ok h6))
    · cases h
  | .rng3 a b c, z, hz, X, sc, rs, tg, x, ok, h => by
    unfold chkI at h; split at h
    · simp only [Bool.and_eq_true, decide_eq_true_eq] at h
      obtain ⟨⟨⟨⟨⟨⟨⟨rfl, h2⟩, h3⟩, h4⟩, h5⟩, h6⟩, h7⟩, h8⟩ := h
      exact si_rng3 (blt_of ok h2).1 (blt_of ok h2).2 h3 h4 h5 (sndB ok h6 (sndE a ok h6)) (sndB ok h7 (sndE b ok h7)) (sndB ok h8 (sndE c ok h8))
    · cases h
  | .enm a, z, hz, X, sc, rs, tg, x, ok, h => by
    unfold chkI at h; split at h
    · split at h
      · simp only [Bool.and_eq_true, decide_eq_true_eq] at h
        obtain ⟨⟨⟨rfl, h2⟩, h3⟩, h4⟩ := h
        rcases hz with rfl | hz
        · exact si_enm (blt_of ok h2).1 (blt_of ok h2).2 h3 (sndB ok h4 (sndE a ok h4))
        · exact si_enm (blt_of ok h2).1 (blt_of ok h2).2 h3 (sndB0 hz (sndE a ok h4))
      · cases h
    · cases h
  | .zip a b, z, hz, X, sc, rs, tg, x, ok, h => by
    unfold chkI at h; split at h
    · split at h
      · simp only [Bool.and_eq_true, decide_eq_true_eq] at h
        obtain ⟨⟨⟨⟨⟨rfl, h2⟩, h3⟩, h4⟩, h5⟩, h6⟩ := h
        rcases hz with rfl | hz
        · exact si_zip (blt_of ok h2).1 (blt_of ok h2).2 h3 h4 (sndB ok h5 (sndE a ok h5)) (sndB ok h6 (sndE b ok h6))
        · have hz : (isV a || isV b) = false := hz
          rw [Bool.or_eq_false_iff] at hz
          exact si_zip (blt_of ok h2).1 (blt_of ok h2).2 h3 h4 (sndB0 hz.1 (sndE a ok h5)) (sndB0 hz.2 (sndE b ok h6))
      · cases h
    · cases h
end
end
end Pi

end
section
set_option Elab.async false
set_option linter.all false
set_option maxRecDepth 100000
set_option maxHeartbeats 4000000
namespace Pi
open PySem PySem.Spec PyProof.Rows L2
def isLC : Expr → Bool
  | .ListComp .. => true
  | .SetComp .. => true
  | .DictComp .. => true
  | _ => false
theorem sw_no {e : Expr} (h : isLC e = false) (t : Option Expr) (l : Nat) (env : Env) : swapsWith e t l env = pure false := by cases e <;> first | rfl | cases h
theorem sw_tup (e : Expr) (es : List Expr) (k : Nat) (p : Pos) (l : Nat) (env : Env) : swapsWith e (some (.Tuple es k p)) l env = pure false := by cases e <;> rfl
theorem sw_sub (e a b : Expr) (p : Pos) (l : Nat) (env : Env) : swapsWith e (some (.Subscript a b p)) l env = pure false := by cases e <;> rfl
def swB (sc scope : Scope) (y : Str) (py ep : Pos) : Bool := sc.names.lookup y == some .local && py.line == ep.line && !(scope.names.any fun (n, k) => n == y && (k == .local || k == .cell))
def isTup : Expr → Bool
  | .Tuple .. => true
  | _ => false
theorem st_no {e : Expr} (h : isTup e = false) (ts : List Expr) (env : Env) : swappedStores ts e env = pure none := by
  cases e with
  | Tuple a b c => cases h
  | _ =>
    unfold swappedStores
    rcases ts with _ | ⟨t, _ | ⟨u, r⟩⟩
    · rfl
    · cases t <;> rfl
    · cases t <;> rfl
theorem st_name {x e : Expr} (h : ∀ es k p, x ≠ .Tuple es k p) (h2 : ∀ es p, x ≠ .List es p) (env : Env) : swappedStores [x] e env = pure none := by
  unfold swappedStores
  cases x with
  | Tuple a b c => exact absurd rfl (h a b c)
  | List a b => exact absurd rfl (h2 a b)
  | _ => cases e <;> rfl
def starB : Expr → Bool
  | .Starred .. => true
  | _ => false
def nameAt (sc : Scope) (line : Nat) : Expr → Option Str
  | .Name id pos => if sc.names.lookup id == some .local && pos.line == line then some id else none
  | _ => none
def lnOf (ts : List Expr) : Nat := (ts.head?.map fun (e : Expr) => e.pos.line).getD 0
/-- how a, b = x, y is stored -/
def swP (sc : Scope) (ts vs : List Expr) : Option (Option (List Str)) :=
  if !(ts.length == 2 || ts.length == 3) || vs.length != ts.length then some none
  else if vs.any starB then some none
  else if (ts.filterMap (nameAt sc (lnOf ts))).length != ts.length || (ts.filterMap (nameAt sc (lnOf ts))).eraseDups.length != (ts.filterMap (nameAt sc (lnOf ts))).length then some none
  else if vs.all (foldedForSure 8) then some none
  else if vs.all (constantsAlone 8) then none
  else some (some (ts.filterMap (nameAt sc (lnOf ts))))
theorem swP_ok {sc : Scope} {env : Env} {ts vs : List Expr} {k k2 : Nat} {p p2 : Pos} {r : Option (List Str)} (hs : env.scope = sc) (hb : env.blockKind = .function) (h : swP sc ts vs = some r) : swappedStores [.Tuple ts k p] (.Tuple vs k2 p2) env = pure r := by
  subst hs
  unfold swappedStores
  simp only [hb]
  show (if (!(ts.length == 2 || ts.length == 3) || vs.length != ts.length || ScopeKind.function != ScopeKind.function) = true then pure none
    else if (vs.any starB) = true then pure none
    else if ((ts.filterMap (nameAt env.scope (lnOf ts))).length != ts.length || (ts.filterMap (nameAt env.scope (lnOf ts))).eraseDups.length != (ts.filterMap (nameAt env.scope (lnOf ts))).length) = true then pure none
    else if vs.all (foldedForSure 8) = true then pure none
    else if vs.all (constantsAlone 8) = true then (do
      unsupported "assign.tuple-of-constant-expressions:order-of-the-stores"
      pure (some (ts.filterMap (nameAt env.scope (lnOf ts)))))
    else pure (some (ts.filterMap (nameAt env.scope (lnOf ts))))) = pure r
  unfold swP at h
  by_cases c1 : (!(ts.length == 2 || ts.length == 3) || vs.length != ts.length) = true
  · rw [if_pos c1] at h
    cases h
    rw [if_pos (by rw [c1]; rfl)]
  · rw [if_neg c1] at h
    rw [if_neg (by simpa using c1)]
    by_cases c2 : vs.any starB = true
    · rw [if_pos c2] at h
      cases h
      rw [if_pos c2]
    · rw [if_neg c2] at h
      rw [if_neg c2]
      split at h
      · rename_i c3
        cases h
        rw [if_pos c3]
      · rename_i c3
        rw [if_neg c3]
        split at h
        · rename_i c4
          cases h
          rw [if_pos c4]
        · rename_i c4
          rw [if_neg c4]
          split at h
          · cases h
          · rename_i c5
            cases h
            rw [if_neg c5]
end Pi

end
section
set_option Elab.async false
set_option linter.all false
set_option maxRecDepth 100000
set_option maxHeartbeats 4000000
namespace Pi
open PySem PySem.Spec PyProof.Rows L2
/-! ### does a statement of the interpreter tell a statement of the program? -/
def locB (sc : Scope) (y : Str) : Bool := sc.names.lookup y == some .local
/-- a tuple of names is stored -/
def tgOk (C : Ck) (sc : Scope) (t : Tg) (tg x : Expr) : Bool := match t with
  | .n _ => true
  | .t _ => (match tg with
    | .Tuple l _ _ => (match x with
      | .Tuple vs _ _ => (match swP sc l vs with
        | some none => true
        | some (some ns) => (match t, l with
          | .t (.cons (.n i) (.cons (.n j) .nil)), [.Name y _, .Name z _] => decide (ns = [y, z]) && locB sc y && locB sc z && decide (i ≠ j) && decide (vs.length = 2)
          | .t (.cons (.n i) (.cons (.n j) (.cons (.n k) .nil))), [.Name y _, .Name z _, .Name w _] => decide (ns = [y, z, w]) && locB sc y && locB sc z && locB sc w && decide (i ≠ j) && decide (i ≠ k) && decide (j ≠ k) && decide (vs.length = 3)
          | _, _ => false)
        | none => false)
      | _ => true)
    | _ => false)
/-- targets: names and name[k] -/
def chkP (C : Ck) (sc : Scope) : List (Nat × Option E) → List Expr → Bool
  | [], [] => true
  | (i, none) :: ts, x :: l => (match x with | .Name y _ => C.N[i]? == some y && stB sc sc y | _ => false) && chkP C sc ts l
  | (i, some k) :: ts, x :: l => (match x with | .Subscript (.Name y _) z _ => C.N[i]? == some y && visB sc y && nmB y && nice z && chkE C k sc sc z | _ => false) && chkP C sc ts l
  | _, _ => false
mutual
def chkS (C : Ck) (sc : Scope) : S → Stmt → Bool
  | .asg t e, st => (match st with | .Assign [tg] x _ => chkE C e sc sc x && chkT C sc sc t tg && tgOk C sc t tg x | _ => false)
  | .own i e, st => (match st with | .Assign [.Name y _] x _ => C.N[i]? == some y && stB sc sc y && chkE C e sc sc x | _ => false)
  | .abox i e, st => (match st with | .Assign [.Name y _] x _ => C.N[i]? == some y && stB sc sc y && chkE C e sc sc x | _ => false)
  | .mv i j, st => false
  | .fz is s, st => chkS C sc s st
  | .stix i k e, st => (match st with | .Assign [.Subscript (.Name y _) z _] x _ => C.N[i]? == some y && visB sc y && nmB y && nice z && chkE C k sc sc z && chkE C e sc sc x | _ => false)
  | .dputT i ks e, st => (match st with | .Assign [.Subscript (.Name y _) (.Tuple l _ _) _] x _ => C.N[i]? == some y && visB sc y && nmB y && chkEs C ks sc sc l && chkE C e sc sc x | _ => false)
  | .app i e, st => (match st with | .Expr (.Call (.Attribute (.Name y _) m ap) [x] [] cp) _ => C.N[i]? == some y && visB sc y && nmB y && decide (m = "append") && decide (ap.endLine = cp.line) && nice x && chkE C e sc sc x | _ => false)
  | .ext i e, st => (match st with | .Expr (.Call (.Attribute (.Name y _) m ap) [x] [] cp) _ => C.N[i]? == some y && visB sc y && nmB y && decide (m = "extend") && decide (ap.endLine = cp.line) && nice x && chkE C e sc sc x | _ => false)
  | .apop i j k, st => (match st with
    | .Expr (.Call (.Attribute (.Name y _) m ap) [.Call (.Attribute (.Name u _) m2 ap2) [x] [] cp2] [] cp) _ => C.N[i]? == some y && visB sc y && nmB y && decide (m = "append") && decide (ap.endLine = cp.line) &&
        C.N[j]? == some u && visB sc u && nmB u && decide (m2 = "pop") && decide (ap2.endLine = cp2.line) && nice x && chkE C k sc sc x
    | _ => false)
  | .par i oi e j oj f, st => (match st with
    | .Assign [.Tuple [.Name y _, .Name z _] _ _] (.Tuple [x, w] _ _) _ => C.N[i]? == some y && C.N[j]? == some z && decide (i ≠ j) && nice x && nice w && chkE C e sc sc x && chkE C f sc sc w &&
        (match st with | .Assign [.Tuple ts _ _] (.Tuple vs _ _) _ => (locB sc y && locB sc z && decide (swP sc ts vs = some (some [y, z]))) || (stB sc sc y && stB sc sc z && decide (swP sc ts vs = some none)) | _ => false)
    | _ => false)
  | .parS ts es, st => (match st with | .Assign [.Tuple l _ _] (.Tuple vs _ _) _ => decide (swP sc l vs = some none) && chkEs C es sc sc vs && chkP C sc ts l && decide (ts.length ≤ SL) | _ => false)
  | .iteL is c a b, st => (match st with | .If x p q _ => noIt c && chkE C c sc sc x && chkSs C sc a p && chkSs C sc b q | _ => false)
  | .ex e, st => (match st with | .Expr x _ => !isLC x && chkE C e sc sc x | _ => false)
  | .ret e, st => (match st with | .Return (some x) _ => chkE C e sc sc x | _ => false)
  | .reto i, st => (match st with | .Return (some (.Name y _)) _ => C.N[i]? == some y && visB sc y && nmB y | _ => false)
  | .ret0, st => (match st with | .Return none _ => true | _ => false)
  | .rbox es, st => (match st with | .Return (some (.List l _)) _ => chkEs C es sc sc l | _ => false)
  | .ite c a b, st => (match st with | .If x p q _ => noIt c && chkE C c sc sc x && chkSs C sc a p && chkSs C sc b q | _ => false)
  | .wh c b, st => (match st with | .While x p [] _ => noIt c && chkE C c sc sc x && chkSs C sc b p | _ => false)
  | .for' t it b, st => (match st with | .For tg x p [] _ => nice x && chkI C it sc sc tg x && chkT C sc sc t tg && chkSs C sc b p | _ => false)
  | .brk, st => (match st with | .Break _ => true | _ => false)
  | .cnt, st => (match st with | .Continue _ => true | _ => false)
  | .pass, st => (match st with | .Pass _ => true | .Expr (.Constant (.str _) _ _) _ => true | _ => false)
  | .never, st => true
def chkSs (C : Ck) (sc : Scope) : Ss → List Stmt → Bool
  | .nil, l => l.isEmpty
  | .cons s ss, l => (match l with | x :: l => chkS C sc s x && chkSs C sc ss l | [] => false)
end
section
variable {C : Ck} {gl : Nat → Option D} {cf : Cf} {X : Cx} {sc rs : Scope} {W : Nat}
theorem psImp {st : Stmt} {t t' : TS} (h : PS X st t) (f : ∀ D σ H, t' D σ H → t D σ H) : PS X st t' := ⟨fun pins s σ H D I q => h.run pins s σ H D I (f D σ H q)⟩
theorem pssImp {st : List Stmt} {t t' : TS} (h : PSs X st t) (f : ∀ D σ H, t' D σ H → t D σ H) : PSs X st t' := ⟨fun pins s σ H D I q => h.run pins s σ H D I (f D σ H q)⟩
theorem semD_im {K : PySem.W.Frag} {f : Ev → Sto → Option (Vl × Sto)} (σ : L2.St) (H : Hp) (Q : VK) (h : SemD K (fun env st => toD (f env st)) σ H Q) : SemE K f σ H Q := by
  obtain ⟨M, U, st, env, x, st', er, ex, q⟩ := h
  obtain ⟨w, s, h1, h2⟩ := bnd_eq ex
  cases hw : w.toD with
  | none => rw [hw] at h2; cases h2
  | some y =>
    rw [hw] at h2
    cases h2
    exact ⟨M, U, st, env, w, _, er, h1, EPost.toD er.sto.tr hw q⟩
theorem sw_lc {elt : Expr} {gs : List Comprehension} {scope : Scope} {pos py : Pos} {y : Str} {l : Nat} {env : Env} (hb : env.blockKind = .function) (hs : env.scope = sc) :
    swapsWith (.ListComp elt gs scope pos) (some (.Name y py)) l env = pure (swB sc scope y py pos) := by
  subst hs
  show (pure (env.blockKind == .function && env.kindOf y == some .local && py.line == (Expr.ListComp elt gs scope pos).pos.line && !(scope.names.any fun (n, k) => n == y && (k == .local || k == .cell))) : Sem Bool) = _
  rw [hb]
  rfl
theorem kindB (ok : XOk C gl cf X sc rs) (hk : sc.kind = .function) : X.env.blockKind = .function := by
  show (if X.env.scope.kind.isAnnotationScope then ScopeKind.function else X.env.scope.kind) = _
  rw [ok.sc, hk]
  rfl
/-- a name is set -/
theorem ps_name (ok : XOk C gl cf X sc sc) (hk : sc.kind = .function) {e : E} {i : Nat} {x : Expr} {y : Str} {py pos : Pos} (h : chkE C e sc sc x = true) (hi : X.N[i]? = some y) (hy : StN X y) :
    PS X (.Assign [.Name y py] x pos) (tAsg (SemE X.K (ev gl cf e)) (gName i)) := by
  by_cases cn : isLC x = false
  · exact ps_set ok.nd hi hy.1 (sndE e ok h) (sw_no cn _ _ _) hy.2
  · cases e with
    | lc vs e t it c =>
      have h0 := h
      unfold chkE at h; split at h
      · rename_i elt tg iter ifs scope cpos
        by_cases cs : swB sc scope y py cpos = false
        · exact ps_set ok.nd hi hy.1 (sndE _ ok h0) ((sw_lc (kindB ok hk) ok.sc).trans (by rw [cs])) hy.2
        · have cs : swB sc scope y py cpos = true := by simpa using cs
          have hl : X.env.scope.names.lookup y = some .local := by
            unfold swB at cs
            simp only [Bool.and_eq_true] at cs
            rw [ok.sc]
            exact beq_iff_eq.mp cs.1.1
          simp only [Bool.and_eq_true, List.all_eq_true] at h
          obtain ⟨⟨⟨⟨⟨⟨h1, h2⟩, h3⟩, h4⟩, h5⟩, h6⟩, h7⟩ := h
          obtain ⟨b1, b2⟩ := blk_of ok h1
          refine psImp (ps_setLc (tt := SemT X.K (evc gl cf c)) (te := SemD X.K fun env st => toD (ev gl cf e env st)) (g := tgR X.K t) ok.calm ok.nd hi hl ((sw_lc (kindB ok hk) ok.sc).trans (by rw [cs])) (sndI it OwV (.inl rfl) ok h5) b1
            (fun s H Cd cl fp => pg_T (ok.blk s H _ Cd cl fp).calm (ok.blk s H _ Cd cl fp).nd (chkT_ok (ok.blk s H _ Cd cl fp) t _ h4))
            (fun s H Cd cl fp => sndC c (ok.blk s H _ Cd cl fp) h6)
            (fun s H Cd cl fp => semD_of (sndE e (ok.blk s H _ Cd cl fp) h7)) (noFold h3 X.env)) fun D σ H q => ?_
          rw [b2]
          exact lc_im (fun i hi => by simpa using h2 i hi) _ _ _ q
      · cases h
    | lc2 vs ws e t it c t' it' c' =>
      have h0 := h
      unfold chkE at h; split at h
      · rename_i elt tg iter ifs tg1 iter1 ifs1 scope cpos
        by_cases cs : swB sc scope y py cpos = false
        · exact ps_set ok.nd hi hy.1 (sndE _ ok h0) ((sw_lc (kindB ok hk) ok.sc).trans (by rw [cs])) hy.2
        · have cs : swB sc scope y py cpos = true := by simpa using cs
          have hl : X.env.scope.names.lookup y = some .local := by
            unfold swB at cs
            simp only [Bool.and_eq_true] at cs
            rw [ok.sc]
            exact beq_iff_eq.mp cs.1.1
          simp only [Bool.and_eq_true, List.all_eq_true] at h
          obtain ⟨⟨⟨⟨⟨⟨⟨⟨⟨⟨⟨⟨h1, h2⟩, h2b⟩, h2c⟩, h3⟩, h3b⟩, h4⟩, h5⟩, h6⟩, h7⟩, h8⟩, h9⟩, h10⟩ := h
          obtain ⟨b1, b2⟩ := blk_of ok h1
          refine psImp (ps_setLc2 (vs1 := ws) (tt := SemT X.K (evc gl cf c)) (tt1 := SemT X.K (evc gl cf c')) (wi1 := SemIZ OwV X.K (evi gl cf it')) (te := SemD X.K fun env st => toD (ev gl cf e env st)) (g := tgR X.K t) (g1 := tgR X.K t') ok.calm ok.nd hi hl ((sw_lc (kindB ok hk) ok.sc).trans (by rw [cs])) (sndI it OwV (.inl rfl) ok h5) b1 (by rw [b2]; exact fun i hi => by simpa using h2c i hi)
            (fun s H Cd cl fp => pg_T (ok.blk s H _ Cd cl fp).calm (ok.blk s H _ Cd cl fp).nd (chkT_ok (ok.blk s H _ Cd cl fp) t _ h4))
            (fun s H Cd cl fp => sndC c (ok.blk s H _ Cd cl fp) h6)
            (fun s H Cd cl fp => sndI it' OwV (.inl rfl) (ok.blk s H _ Cd cl fp) h8)
            (fun s H Cd cl fp => pg_T (ok.blk s H _ Cd cl fp).calm (ok.blk s H _ Cd cl fp).nd (chkT_ok (ok.blk s H _ Cd cl fp) t' _ h7))
            (fun s H Cd cl fp => sndC c' (ok.blk s H _ Cd cl fp) h9)
            (fun s H Cd cl fp => semD_of (sndE e (ok.blk s H _ Cd cl fp) h10)) (noFold h3 X.env) (fun env x => noFold h3b env x)) fun D σ H q => ?_
          rw [b2]
          exact lc2_im (fun i hi => by simpa using h2 i hi) (fun i hi => by simpa using h2b i hi) _ _ _ q
      · cases h
    | dnew t =>
      unfold chkE at h; split at h
      · exact absurd rfl cn
      · cases h
    | dget2 a k d =>
      unfold chkE at h; split at h
      · exact absurd rfl cn
      · cases h
    | isi a ts =>
      unfold chkE at h; split at h
      · exact absurd rfl cn
      · exact absurd rfl cn
      · cases h
    | and a b =>
      unfold chkE at h; split at h
      · exact absurd rfl cn
      · exact absurd rfl cn
      · cases h
    | or a b =>
      unfold chkE at h; split at h
      · exact absurd rfl cn
      · exact absurd rfl cn
      · cases h
    | _ =>
      unfold chkE at h; split at h
      · exact absurd rfl cn
      · cases h
end
end Pi

end
section
set_option Elab.async false
set_option linter.all false
set_option maxRecDepth 100000
set_option maxHeartbeats 4000000
namespace Pi
open PySem PySem.Spec PyProof.Rows L2
section
variable {C : Ck} {gl : Nat → Option D} {cf : Cf} {X : Cx} {sc : Scope} {W : Nat}
theorem asg_im {D : Ends} {σ : L2.St} {H : Hp} {K : PySem.W.Frag} {e : E} {i : Nat} (q : SemS K (exec gl cf W (.asg (.n i) e)) D σ H) : tAsg (SemE K (ev gl cf e)) (gName i) D σ H :=
  semD_im _ _ _ (sem_asg (t := .n i) q)
theorem sem_parL {D : Ends} {σ : L2.St} {H : Hp} {K : PySem.W.Frag} {g : Ev → Sto → Option (List PyData × Sto)} {ts : Tgs}
    (h : SemS K (fun env st => match toD (bnd (g env st) fun xs s => if xs.length ≤ SL then some (Vl.d (.tuple xs), s) else none) with | some (x, s) => (bindT (.t ts) x env).map fun e1 => (.nx, e1, s) | none => none) D σ H) :
    SemL K g σ H fun vs H1 => tgsR K ts vs σ H1 D.nx := by
  obtain ⟨M, Z, st, env, fl, env', st', r, e, q⟩ := h
  simp only [] at e
  split at e
  · rename_i x s hx
    obtain ⟨w, s1, h1, h2⟩ := bnd_eq hx
    obtain ⟨xs, s2, h3, h4⟩ := bnd_eq h1
    obtain ⟨hz, h4⟩ := dec2 h4
    cases h4
    cases h2
    obtain ⟨e1, hb, e⟩ := Option.map_eq_some_iff.mp e
    cases e
    refine ⟨M, _, st, env, xs, _, r.er, h3, fun vs H1 M1 s so ra => ?_⟩
    refine (binds_ok ts (r.er.step s so) ra hb fun σ' er' hl ag => ?_).2
    have sub : Sub σ env σ' env' := fun i ⟨y, hy⟩ => by
      rcases (binds_look ts hb).2 i with ⟨h1, h2⟩ | ⟨z, h1⟩
      · exact ⟨h1, by rw [ag i h2]⟩
      · rw [h1] at hy; rcases hy with hy | hy <;> cases hy
    exact q M1 H1 σ' (SSt.ofStp s so fun a z => .inl (sub.w z)) sub.lks (r.sub sub er')
  · cases e
theorem slmono {K : PySem.W.Frag} {g : Ev → Sto → Option (List PyData × Sto)} {σ : L2.St} {H : Hp} {Q Q' : List V → Hp → Prop} (h : SemL K g σ H Q) (f : ∀ vs H, Q vs H → Q' vs H) : SemL K g σ H Q' := by
  obtain ⟨M, U, st, env, xs, s, er, e, q⟩ := h
  exact ⟨M, U, st, env, xs, s, er, e, fun vs H1 M1 p so ra => f _ _ (q vs H1 M1 p so ra)⟩
theorem loc_of (ok : XOk C gl cf X sc sc) {y : Str} (h : locB sc y = true) : X.env.scope.names.lookup y = some .local := by
  rw [ok.sc]; exact beq_iff_eq.mp h
/-- a tuple of targets -/
theorem ps_tup (ok : XOk C gl cf X sc sc) (hk : sc.kind = .function) {e : E} {ts : Tgs} {tg x : Expr} {pos : Pos} (h1 : chkE C e sc sc x = true) (h2 : chkT C sc sc (.t ts) tg = true) (h3 : tgOk C sc (.t ts) tg x = true) :
    PS X (.Assign [tg] x pos) (SemS X.K (exec gl cf W (.asg (.t ts) e))) := by
  have hg := pg_T ok.calm ok.nd (chkT_ok ok (.t ts) tg h2)
  cases tg with
  | Tuple l k p =>
    by_cases ct : isTup x = false
    · refine psImp (ps_asg (semD_of (sndE e ok h1)) hg (sw_tup x l k p pos.line X.env) (st_no ct _ _)) fun D σ H q => sem_asg q
    · cases x with
      | Tuple vs k2 p2 =>
        unfold tgOk at h3
        simp only [] at h3
        split at h3
        · rename_i hp
          exact psImp (ps_asg (semD_of (sndE e ok h1)) hg (sw_tup (.Tuple vs k2 p2) l k p pos.line X.env) (swP_ok ok.sc (kindB ok hk) hp)) fun D σ H q => sem_asg q
        · rename_i ns hp
          have hes : ∃ es, e = .tup es ∧ chkEs C es sc sc vs = true := by
            cases e <;> first | (unfold chkE at h1; exact ⟨_, rfl, h1⟩) | (unfold chkE at h1; cases h1)
          obtain ⟨es, rfl, he⟩ := hes
          have pa := sndL es ok he
          have hw := swP_ok (k := k) (p := p) (k2 := k2) (p2 := p2) ok.sc (kindB ok hk) hp
          split at h3
          · rename_i i j y py z pz he2
            simp only [Bool.and_eq_true, decide_eq_true_eq] at h3
            obtain ⟨⟨⟨⟨rfl, hy⟩, hzz⟩, hij⟩, hlen⟩ := h3
            cases he2
            unfold chkT chkTs chkTs chkTs chkT at h2
            simp only [Bool.and_eq_true] at h2
            obtain ⟨⟨hi, _⟩, ⟨hj, _⟩, _⟩ := h2
            obtain ⟨a, b, rfl⟩ : ∃ a b, vs = [a, b] := by
              match vs, hlen with
              | [a, b], _ => exact ⟨a, b, rfl⟩
            refine psImp (ps_par ok.calm ok.nd (nth_of ok hi) (nth_of ok hj) hij (loc_of ok hy) (loc_of ok hzz) pa hw rfl) fun D σ H q => ?_
            refine slmono (sem_parL q) fun us H1 ⟨v, r, e1, v2, r2, e2, e3, q⟩ => ?_
            subst e1; subst e2; subst e3
            exact ⟨v, v2, rfl, q⟩
          · rename_i i j m y py z pz w pw he2
            simp only [Bool.and_eq_true, decide_eq_true_eq] at h3
            obtain ⟨⟨⟨⟨⟨⟨⟨rfl, hy⟩, hzz⟩, hww⟩, hij⟩, him⟩, hjm⟩, hlen⟩ := h3
            cases he2
            unfold chkT chkTs chkTs chkTs chkTs chkT at h2
            simp only [Bool.and_eq_true] at h2
            obtain ⟨⟨hi, _⟩, ⟨hj, _⟩, ⟨hm, _⟩, _⟩ := h2
            obtain ⟨a, b, c, rfl⟩ : ∃ a b c, vs = [a, b, c] := by
              match vs, hlen with
              | [a, b, c], _ => exact ⟨a, b, c, rfl⟩
            refine psImp (ps_par3 ok.calm ok.nd (nth_of ok hi) (nth_of ok hj) (nth_of ok hm) hij him hjm (loc_of ok hy) (loc_of ok hzz) (loc_of ok hww) pa hw rfl) fun D σ H q => ?_
            refine slmono (sem_parL q) fun us H1 ⟨v, r, e1, v2, r2, e2, v3, r3, e3, e4, q⟩ => ?_
            subst e1; subst e2; subst e3; subst e4
            exact ⟨v, v2, v3, rfl, q⟩
          · cases h3
        · cases h3
      | _ => exact absurd rfl ct
  | _ => unfold chkT at h2; cases h2
end
end Pi

end
section
set_option Elab.async false
set_option linter.all false
set_option maxRecDepth 100000
set_option maxHeartbeats 4000000
namespace Pi
open PySem PySem.Spec PyProof.Rows L2
section
variable {C : Ck} {gl : Nat → Option D} {cf : Cf} {X : Cx} {sc : Scope} {W : Nat}
theorem epmono {K : PySem.W.Frag} {M : List Addr} {U : Addr → Prop} {H : Hp} {st' : Sto} {w : Vl} {Q Q' : VK} (f : ∀ v H, Q v H → Q' v H) (q : EPost K M U H st' w Q) : EPost K M U H st' w Q' := by
  cases w with
  | d x => exact fun v H' M' s so r => f _ _ (q v H' M' s so r)
  | fr x => exact fun a H' M' s n so r => f _ _ (q a H' M' s n so r)
  | rf n => exact fun a H' M' s so r => f _ _ (q a H' M' s so r)
theorem var_of (ok : XOk C gl cf X sc sc) {i : Nat} {y : Str} {p : Pos} (h1 : (C.N[i]? == some y) = true) (h2 : visB sc y = true) (h3 : nmB y = true) : PE X (.Name y p) (tVar i) :=
  pe_var (nth_of ok h1) (vis_of ok h2) (nm_of h3).1 (nm_of h3).2
theorem ps_app (ok : XOk C gl cf X sc sc) {i : Nat} {y : Str} {yp ap cp p : Pos} {x : Expr} {e : E} (h1 : (C.N[i]? == some y) = true) (h2 : visB sc y = true) (h3 : nmB y = true) (hl : ap.endLine = cp.line) (n : nice x = true) (hx : chkE C e sc sc x = true) :
    PS X (.Expr (.Call (.Attribute (.Name y yp) "append" ap) [x] [] cp) p) (SemS X.K (exec gl cf W (.app i e))) :=
  psImp (ps_expr (pe_bm PySem.F.plainAttrs_list PySem.F.slot_list_append PySem.F.type_list_append mt_append (var_of ok h1 h2 h3) (pa_cons (semD_of (sndE e ok hx)) pa_nil (star1 n [] _)) rfl (few1 n cp _) (by rw [hl]; exact beq_self_eq_true _) (star1 n [] _) rfl) rfl) fun D σ H q => sem_app q
theorem ps_apop (ok : XOk C gl cf X sc sc) {i j : Nat} {y u : Str} {yp ap cp p up ap2 cp2 : Pos} {x : Expr} {k : E} (h1 : (C.N[i]? == some y) = true) (h2 : visB sc y = true) (h3 : nmB y = true) (hl : ap.endLine = cp.line)
    (g1 : (C.N[j]? == some u) = true) (g2 : visB sc u = true) (g3 : nmB u = true) (gl' : ap2.endLine = cp2.line) (n : nice x = true) (hx : chkE C k sc sc x = true) :
    PS X (.Expr (.Call (.Attribute (.Name y yp) "append" ap) [.Call (.Attribute (.Name u up) "pop" ap2) [x] [] cp2] [] cp) p) (SemS X.K (exec gl cf W (.apop i j k))) :=
  psImp (ps_expr (pe_bm PySem.F.plainAttrs_list PySem.F.slot_list_append PySem.F.type_list_append mt_append (var_of ok h1 h2 h3)
    (pa_cons (pe_bm PySem.F.plainAttrs_list PySem.F.slot_list_pop PySem.F.type_list_pop mt_popAt (var_of ok g1 g2 g3) (pa_cons (sndB ok hx (sndE k ok hx)) pa_nil (star1 n [] _)) rfl (few1 n cp2 _) (by rw [gl']; exact beq_self_eq_true _) (star1 n [] _) rfl) pa_nil rfl)
    rfl rfl (by rw [hl]; exact beq_self_eq_true _) rfl rfl) rfl) fun D σ H q => sem_apop q
theorem ps_par2 (ok : XOk C gl cf X sc sc) (hk : sc.kind = .function) {i j : Nat} {oi oj : Bool} {y z : Str} {yp zp tp vp p : Pos} {k k2 : Nat} {x w : Expr} {e f : E} (h1 : (C.N[i]? == some y) = true) (h2 : (C.N[j]? == some z) = true) (ly : locB sc y = true) (lz : locB sc z = true) (hij : i ≠ j)
    (nx : nice x = true) (nw : nice w = true) (he : chkE C e sc sc x = true) (hf : chkE C f sc sc w = true) (hs : swP sc [.Name y yp, .Name z zp] [x, w] = some (some [y, z])) :
    PS X (.Assign [.Tuple [.Name y yp, .Name z zp] k tp] (.Tuple [x, w] k2 vp) p) (SemS X.K (exec gl cf W (.par i oi e j oj f))) :=
  psImp (ps_par ok.calm ok.nd (nth_of ok h1) (nth_of ok h2) hij (loc_of ok ly) (loc_of ok lz) (pa_cons (sndE e ok he) (pa_cons (sndE f ok hf) pa_nil (star1 nw [] _)) (star1 nx [w] _)) (swP_ok ok.sc (kindB ok hk) hs) rfl) fun D σ H q => by
    obtain ⟨M, U, st, env, u, s, er, e1, q1⟩ := sem_par (f := ev gl cf e) (g := ev gl cf f) q
    exact ⟨M, U, st, env, u, s, er, e1, epmono (fun v H1 q2 => by
      obtain ⟨M2, U2, st2, env2, u2, s2, er2, e2, q3⟩ := q2
      exact ⟨M2, U2, st2, env2, u2, s2, er2, e2, epmono (fun v2 H2 q4 => ⟨v, v2, rfl, q4⟩) q3⟩) q1⟩
/-- the two are stored by way of a tuple -/
theorem semS_grow {K : PySem.W.Frag} {f : Ev → Sto → SR} {D : Ends} {σ : L2.St} {H : Hp} (h : SemS K f D σ H) : SemS K f { D with nx := fun σ H => ∀ p o, H p = none → D.nx σ (L2.upd H p o) } σ H := by
  obtain ⟨M, Z, st, env, fl, env', st', r, e, q⟩ := h
  refine ⟨M, Z, st, env, fl, env', st', r, e, ?_⟩
  cases fl with
  | nx =>
    intro M' H' σ' s l r' p o hp
    have g := Stp.grow (M := M') (growN (o := o) hp)
    have so := r'.er.sto.grow (growN (o := o) hp)
    exact q M' _ σ' (s.trans (SSt.ofStp g so fun _ z => .inl z)) l (r'.step g so)
  | bk => exact q
  | ct => exact q
  | rt w => exact q
theorem ps_parT (ok : XOk C gl cf X sc sc) (hk : sc.kind = .function) {i j : Nat} {oi oj : Bool} {y z : Str} {yp zp tp vp p : Pos} {k k2 : Nat} {x w : Expr} {e f : E} (h1 : (C.N[i]? == some y) = true) (h2 : (C.N[j]? == some z) = true) (sy : stB sc sc y = true) (sz : stB sc sc z = true)
    (nx : nice x = true) (nw : nice w = true) (he : chkE C e sc sc x = true) (hf : chkE C f sc sc w = true) (hs : swP sc [.Name y yp, .Name z zp] [x, w] = some none) :
    PS X (.Assign [.Tuple [.Name y yp, .Name z zp] k tp] (.Tuple [x, w] k2 vp) p) (SemS X.K (exec gl cf W (.par i oi e j oj f))) := by
  have py := st_of' ok sy
  have pz := st_of' ok sz
  have pg : PG X (.Tuple [.Name y yp, .Name z zp] k tp) (gTup X.K 2 (gCons (gName i) (gCons (gName j) gNil))) := pg_tup ok.calm (pgs_cons (pg_name ok.nd (nth_of ok h1) py.1 py.2) (pgs_cons (pg_name ok.nd (nth_of ok h2) pz.1 pz.2) pgs_nil rfl) rfl) rfl rfl
  refine psImp (ps_asg (pe_tup (pa_cons (sndE e ok he) (pa_cons (sndE f ok hf) pa_nil (star1 nw [] _)) (star1 nx [w] _))) pg (sw_tup (.Tuple [x, w] k2 vp) [.Name y yp, .Name z zp] k tp p.line X.env) (swP_ok ok.sc (kindB ok hk) hs)) fun D σ H q => ?_
  obtain ⟨M, U, st, env, u, s, er, e1, q1⟩ := sem_par (f := ev gl cf e) (g := ev gl cf f) (semS_grow q)
  refine ⟨M, U, st, env, u, s, er, e1, epmono (fun v H1 q2 => ?_) q1⟩
  obtain ⟨M2, U2, st2, env2, u2, s2, er2, e2, q3⟩ := q2
  refine ⟨M2, U2, st2, env2, u2, s2, er2, e2, epmono (fun v2 H2 q4 => ?_) q3⟩
  exact ⟨(by decide : 2 ≤ sizeLine), fun p hp => ⟨p, [v, v2], rfl, .inl (.inl upd_same), rfl, v, [v2], rfl, v2, [], rfl, rfl, q4 p _ hp⟩⟩
/-- several targets, stored by way of a tuple -/
theorem chkP_each {C : Ck} {sc : Scope} : ∀ {ts : List (Nat × Option E)} {l : List Expr}, chkP C sc ts l = true → ∀ env : Env, (assignEach l env).length = ts.length ∧ (assignEach l env).findIdx? (·.1) = none
  | [], [], _, env => ⟨rfl, rfl⟩
  | [], _ :: _, h, _ => by cases h
  | (i, none) :: ts, [], h, _ => by cases h
  | (i, some k) :: ts, [], h, _ => by cases h
  | (i, none) :: ts, x :: l, h, env => by
    unfold chkP at h
    rw [Bool.and_eq_true] at h
    obtain ⟨h1, h2⟩ := chkP_each h.2 env
    have h3 := h.1
    split at h3
    · rename_i y yp
      have e : assignEach (.Name y yp :: l) env = (false, assign (.Name y yp) env) :: assignEach l env := rfl
      rw [e]
      exact ⟨congrArg (· + 1) h1, by rw [List.findIdx?_cons, h2]; rfl⟩
    · cases h3
  | (i, some k) :: ts, x :: l, h, env => by
    unfold chkP at h
    rw [Bool.and_eq_true] at h
    obtain ⟨h1, h2⟩ := chkP_each h.2 env
    have h3 := h.1
    split at h3
    · rename_i y yp z zp
      have e : assignEach (.Subscript (.Name y yp) z zp :: l) env = (false, assign (.Subscript (.Name y yp) z zp) env) :: assignEach l env := rfl
      rw [e]
      exact ⟨congrArg (· + 1) h1, by rw [List.findIdx?_cons, h2]; rfl⟩
    · cases h3
theorem pgs_P (ok : XOk C gl cf X sc sc) : ∀ {ts : List (Nat × Option E)} {l : List Expr}, chkP C sc ts l = true → PGs X l (tgsS X.K (fun k e1 s1 => bor k (ev gl cf k e1 s1) e1 s1) ts)
  | [], [], _ => pgs_nil
  | [], _ :: _, h => by cases h
  | (i, none) :: ts, [], h => by cases h
  | (i, some k) :: ts, [], h => by cases h
  | (i, none) :: ts, x :: l, h => by
    unfold chkP at h
    rw [Bool.and_eq_true] at h
    have h3 := h.1
    split at h3
    · rw [Bool.and_eq_true] at h3
      have py := st_of' ok h3.2
      exact pgs_cons (pg_name ok.nd (nth_of ok h3.1) py.1 py.2) (pgs_P ok h.2) rfl
    · cases h3
  | (i, some k) :: ts, x :: l, h => by
    unfold chkP at h
    rw [Bool.and_eq_true] at h
    have h3 := h.1
    split at h3
    · rename_i y yp z zp
      simp only [Bool.and_eq_true] at h3
      obtain ⟨⟨⟨⟨h1, h2⟩, h4⟩, n⟩, hk⟩ := h3
      exact pgs_cons (pg_sub (var_of ok h1 h2 h4) (sndB ok hk (sndE k ok hk)) (set_ld (by have := ok.un; omega)) (fun v => by cases z <;> first | rfl | cases n)) (pgs_P ok h.2) rfl
    · cases h3
theorem putAll_len {kf : E → Ev → Sto → Option (D × Sto)} : ∀ {ts : List (Nat × Option E)} {xs : List D} {env : Ev} {st : Sto} {r : Ev × Sto}, putAll kf ts xs env st = some r → xs.length = ts.length
  | [], [], _, _, _, _ => rfl
  | [], _ :: _, _, _, _, h => by cases h
  | (i, none) :: ts, [], _, _, _, h => by cases h
  | (i, some k) :: ts, [], _, _, _, h => by cases h
  | (i, none) :: ts, x :: xs, env, st, r, h => by
    obtain ⟨_, e⟩ := dec2' (show (if i < env.length then putAll kf ts xs (env.set i (.sh x)) st else none) = some r from h)
    exact congrArg (· + 1) (putAll_len e)
  | (i, some k) :: ts, x :: xs, env, st, r, h => by
    obtain ⟨kx, s1, _, e⟩ := bnd_eq (show bnd (kf k env st) (fun kx s1 => (putAt env i kx x s1).bind fun p => putAll kf ts xs p.1 p.2) = some r from h)
    obtain ⟨_, _, e⟩ := Option.bind_eq_some_iff.mp e
    exact congrArg (· + 1) (putAll_len e)
theorem ps_parS (ok : XOk C gl cf X sc sc) (hk : sc.kind = .function) {ts : List (Nat × Option E)} {es : Es} {l vs : List Expr} {k k2 : Nat} {tp vp p : Pos} (hs : swP sc l vs = some none) (he : chkEs C es sc sc vs = true) (ht : chkP C sc ts l = true) (hsl : ts.length ≤ SL) :
    PS X (.Assign [.Tuple l k tp] (.Tuple vs k2 vp) p) (SemS X.K (exec gl cf W (.parS ts es))) := by
  have pg : PG X (.Tuple l k tp) (gTup X.K ts.length (tgsS X.K (fun k e1 s1 => bor k (ev gl cf k e1 s1) e1 s1) ts)) := pg_tup ok.calm (pgs_P ok ht) (chkP_each ht X.env).1 (chkP_each ht X.env).2
  refine psImp (ps_asg (pe_tup (sndL es ok he)) pg (sw_tup (.Tuple vs k2 vp) l k tp p.line X.env) (swP_ok ok.sc (kindB ok hk) hs)) fun D σ H q => ?_
  obtain ⟨M, Z, st, env, fl, env', st', r, e, q⟩ := q
  have e : (match evs gl cf es env st with
    | some (xs, s) => (putAll (fun k e1 s1 => bor k (ev gl cf k e1 s1) e1 s1) ts xs env s).map fun p => (Fl.nx, p.1, p.2)
    | none => none) = some (fl, env', st') := e
  cases he : evs gl cf es env st with
  | none => simp only [he] at e; cases e
  | some pr =>
    obtain ⟨xs, s1⟩ := pr
    simp only [he] at e
    obtain ⟨⟨e2, s2⟩, e3, e⟩ := Option.map_eq_some_iff.mp e
    cases e
    have hl : xs.length = ts.length := putAll_len e3
    refine ⟨M, _, st, env, xs, s1, r.er, he, fun us H1 M1 s so ru => ?_⟩
    have hlen : us.length = ts.length := by rw [ru.length, hl]
    refine ⟨by rw [hlen]; exact SL_le hsl, fun p hp => ⟨p, us, rfl, .inl (.inl upd_same), hlen, ?_⟩⟩
    have g := Stp.grow (M := M1) (growN (o := .tup us) hp)
    have r1 := r.step s so
    have so2 := so.grow (growN (o := .tup us) hp)
    exact putAll_ok ts (r1.step g so2) (ru.keep (keepN so.tracked hp)) e3 fun M' H' σ' t l' r2 => q M' H' σ' ((SSt.ofStp (s.trans g) so2 fun _ z => .inl z).trans t) l' r2
theorem ps_ext (ok : XOk C gl cf X sc sc) {i : Nat} {y : Str} {yp ap cp p : Pos} {x : Expr} {e : E} (h1 : (C.N[i]? == some y) = true) (h2 : visB sc y = true) (h3 : nmB y = true) (hl : ap.endLine = cp.line) (n : nice x = true) (hx : chkE C e sc sc x = true) :
    PS X (.Expr (.Call (.Attribute (.Name y yp) "extend" ap) [x] [] cp) p) (SemS X.K (exec gl cf W (.ext i e))) :=
  psImp (ps_expr (pe_bm PySem.F.plainAttrs_list PySem.F.slot_list_extend PySem.F.type_list_extend mt_extend (var_of ok h1 h2 h3) (pa_cons (sndE e ok hx) pa_nil (star1 n [] _)) rfl (few1 n cp _) (by rw [hl]; exact beq_self_eq_true _) (star1 n [] _) rfl) rfl) fun D σ H q => sem_ext q
theorem ps_stix (ok : XOk C gl cf X sc sc) {i : Nat} {y : Str} {yp sp p : Pos} {x z : Expr} {k e : E} (h1 : (C.N[i]? == some y) = true) (h2 : visB sc y = true) (h3 : nmB y = true) (n : nice z = true) (hk : chkE C k sc sc z = true) (hx : chkE C e sc sc x = true) :
    PS X (.Assign [.Subscript (.Name y yp) z sp] x p) (SemS X.K (exec gl cf W (.stix i k e))) :=
  psImp (ps_asg (semD_of (sndE e ok hx)) (pg_sub (var_of ok h1 h2 h3) (sndB ok hk (sndE k ok hk)) (set_ld (by have := ok.un; omega)) (fun v => by cases z <;> first | rfl | cases n)) (sw_sub x (.Name y yp) z sp p.line X.env) (st_name (fun _ _ _ h => by cases h) (fun _ _ h => by cases h) _)) fun D σ H q => sem_stix q
theorem ps_dputT (ok : XOk C gl cf X sc sc) {i n : Nat} {y : Str} {yp sp tp p : Pos} {x : Expr} {l : List Expr} {ks : Es} {e : E} (h1 : (C.N[i]? == some y) = true) (h2 : visB sc y = true) (h3 : nmB y = true) (hk : chkEs C ks sc sc l = true) (hx : chkE C e sc sc x = true) :
    PS X (.Assign [.Subscript (.Name y yp) (.Tuple l n tp) sp] x p) (SemS X.K (exec gl cf W (.dputT i ks e))) :=
  psImp (ps_asg (semD_of (sndE e ok hx)) (pg_sub (var_of ok h1 h2 h3) (pe_tup (sndL ks ok hk)) (set_ld (by have := ok.un; omega)) (fun v => rfl)) (sw_sub x (.Name y yp) (.Tuple l n tp) sp p.line X.env) (st_name (fun _ _ _ h => by cases h) (fun _ _ h => by cases h) _)) fun D σ H q => sem_dputT q
theorem lockOf_ow {it : It} (env : Ev) (i : Nat) (h : lockOf it env = some i) : ∃ x, look env i = .ow x := by
  cases it with
  | of e =>
    cases e with
    | v j =>
      have h : (match look env j with | .ow _ => some j | _ => none) = some i := h
      cases hl : look env j with
      | ow x => rw [hl] at h; cases h; exact ⟨x, hl⟩
      | no => rw [hl] at h; cases h
      | sh x => rw [hl] at h; cases h
      | lk x => rw [hl] at h; cases h
      | rf x => rw [hl] at h; cases h
    | _ => cases h
  | enm e =>
    cases e with
    | v j =>
      have h : (match look env j with | .ow _ => some j | _ => none) = some i := h
      cases hl : look env j with
      | ow x => rw [hl] at h; cases h; exact ⟨x, hl⟩
      | no => rw [hl] at h; cases h
      | sh x => rw [hl] at h; cases h
      | lk x => rw [hl] at h; cases h
      | rf x => rw [hl] at h; cases h
    | _ => cases h
  | _ => cases h
mutual
theorem sndS (ok : XOk C gl cf X sc sc) (hk : sc.kind = .function) (hp : PassesOwn (model X.prog X.w) X.A X.env X.xe) : ∀ (s : S) (st : Stmt), chkS C sc s st = true → PS X st (SemS X.K (exec gl cf W s))
  | .asg t e, st, h => by
    unfold chkS at h; split at h
    · simp only [Bool.and_eq_true] at h
      obtain ⟨⟨h1, h2⟩, h3⟩ := h
      cases t with
      | n i =>
        unfold chkT at h2
        split at h2
        · rw [Bool.and_eq_true] at h2
          exact psImp (ps_name ok hk h1 (nth_of ok h2.1) (st_of' ok h2.2)) fun D σ H q => asg_im q
        · cases h2
      | t ts => exact ps_tup ok hk h1 h2 h3
    · cases h
  | .own i e, st, h => by
    unfold chkS at h; split at h
    · simp only [Bool.and_eq_true] at h
      obtain ⟨⟨h1, h2⟩, h3⟩ := h
      exact psImp (ps_name ok hk h3 (nth_of ok h1) (st_of' ok h2)) fun D σ H q => sem_own q
    · cases h
  | .abox i e, st, h => by
    unfold chkS at h; split at h
    · simp only [Bool.and_eq_true] at h
      obtain ⟨⟨h1, h2⟩, h3⟩ := h
      exact psImp (ps_name ok hk h3 (nth_of ok h1) (st_of' ok h2)) fun D σ H q => sem_abox q
    · cases h
  | .mv i j, st, h => by cases h
  | .fz is s, st, h => psImp (sndS ok hk hp s st h) fun D σ H q => sem_fz q
  | .stix i k e, st, h => by
    unfold chkS at h; split at h
    · simp only [Bool.and_eq_true] at h
      obtain ⟨⟨⟨⟨⟨h1, h2⟩, h3⟩, h4⟩, h5⟩, h6⟩ := h
      exact ps_stix ok h1 h2 h3 h4 h5 h6
    · cases h
  | .dputT i ks e, st, h => by
    unfold chkS at h; split at h
    · simp only [Bool.and_eq_true] at h
      obtain ⟨⟨⟨⟨h1, h2⟩, h3⟩, h4⟩, h5⟩ := h
      exact ps_dputT ok h1 h2 h3 h4 h5
    · cases h
  | .app i e, st, h => by
    unfold chkS at h; split at h
    · simp only [Bool.and_eq_true, decide_eq_true_eq] at h
      obtain ⟨⟨⟨⟨⟨⟨h1, h2⟩, h3⟩, rfl⟩, h5⟩, h6⟩, h7⟩ := h
      exact ps_app ok h1 h2 h3 h5 h6 h7
    · cases h
  | .ext i e, st, h => by
    unfold chkS at h; split at h
    · simp only [Bool.and_eq_true, decide_eq_true_eq] at h
      obtain ⟨⟨⟨⟨⟨⟨h1, h2⟩, h3⟩, rfl⟩, h5⟩, h6⟩, h7⟩ := h
      exact ps_ext ok h1 h2 h3 h5 h6 h7
    · cases h
  | .apop i j k, st, h => by
    unfold chkS at h; split at h
    · simp only [Bool.and_eq_true, decide_eq_true_eq] at h
      obtain ⟨⟨⟨⟨⟨⟨⟨⟨⟨⟨⟨h1, h2⟩, h3⟩, rfl⟩, h5⟩, g1⟩, g2⟩, g3⟩, rfl⟩, g5⟩, h6⟩, h7⟩ := h
      exact ps_apop ok h1 h2 h3 h5 g1 g2 g3 g5 h6 h7
    · cases h
  | .par i oi e j oj f, st, h => by
    unfold chkS at h; split at h
    · simp only [Bool.and_eq_true, decide_eq_true_eq] at h
      obtain ⟨⟨⟨⟨⟨⟨⟨h1, h2⟩, h5⟩, h6⟩, h7⟩, h8⟩, h9⟩, h10⟩ := h
      rw [Bool.or_eq_true, Bool.and_eq_true, Bool.and_eq_true, Bool.and_eq_true, Bool.and_eq_true, decide_eq_true_eq, decide_eq_true_eq] at h10
      rcases h10 with h10 | h10
      · exact ps_par2 ok hk h1 h2 h10.1.1 h10.1.2 h5 h6 h7 h8 h9 h10.2
      · exact ps_parT ok hk h1 h2 h10.1.1 h10.1.2 h6 h7 h8 h9 h10.2
    · cases h
  | .parS ts es, st, h => by
    unfold chkS at h; split at h
    · simp only [Bool.and_eq_true, decide_eq_true_eq] at h
      exact ps_parS ok hk h.1.1.1 h.1.1.2 h.1.2 h.2
    · cases h
  | .iteL is c a b, st, h => by
    unfold chkS at h; split at h
    · simp only [Bool.and_eq_true] at h
      obtain ⟨⟨⟨h1, h2⟩, h3⟩, h4⟩ := h
      exact psImp (ps_if (sndT c ok h1 h2 (sndE c ok h2)).1 (sndSs ok hk hp a _ h3) (sndSs ok hk hp b _ h4)) fun D σ H q => sem_iteL q
    · cases h
  | .ex e, st, h => by
    unfold chkS at h; split at h
    · simp only [Bool.and_eq_true, Bool.not_eq_true'] at h
      exact psImp (ps_expr (sndE e ok h.2) (sw_no h.1 _ _ _)) fun D σ H q => sem_ex q
    · cases h
  | .ret e, st, h => by
    unfold chkS at h; split at h
    · exact psImp (ps_ret (sndE e ok h)) fun D σ H q => sem_ret q
    · cases h
  | .reto i, st, h => by
    unfold chkS at h; split at h
    · simp only [Bool.and_eq_true] at h
      exact psImp (ps_ret (var_of ok h.1.1 h.1.2 h.2)) fun D σ H q => sem_reto q
    · cases h
  | .ret0, st, h => by
    unfold chkS at h; split at h
    · exact psImp ps_retN fun D σ H q => sem_ret0 q
    · cases h
  | .rbox es, st, h => by
    unfold chkS at h; split at h
    · exact psImp (ps_ret (se_lst (sndL es ok h))) fun D σ H q => sem_rbox q
    · cases h
  | .ite c a b, st, h => by
    unfold chkS at h; split at h
    · simp only [Bool.and_eq_true] at h
      obtain ⟨⟨⟨h1, h2⟩, h3⟩, h4⟩ := h
      exact psImp (ps_if (sndT c ok h1 h2 (sndE c ok h2)).1 (sndSs ok hk hp a _ h3) (sndSs ok hk hp b _ h4)) fun D σ H q => sem_if q
    · cases h
  | .wh c b, st, h => by
    unfold chkS at h; split at h
    · simp only [Bool.and_eq_true] at h
      obtain ⟨⟨h1, h2⟩, h3⟩ := h
      exact psImp (ps_while hp (sndT c ok h1 h2 (sndE c ok h2)).1 (sndSs ok hk hp b _ h3)) fun D σ H q => sem_wh q
    · cases h
  | .for' t it b, st, h => by
    unfold chkS at h; split at h
    · simp only [Bool.and_eq_true] at h
      obtain ⟨⟨⟨h1, h2⟩, h3⟩, h4⟩ := h
      have hg := pg_T ok.calm ok.nd (chkT_ok ok t _ h3)
      cases hb : brw it with
      | true => exact psImp (ps_for hp ok.calm (sndI it OwV (.inl rfl) ok h2) hg (sndSs ok hk hp b _ h4) (noFold h1 X.env)) fun D σ H q => sem_for (bb := brw it) (o := lockOf it) lockOf_ow (.inl ⟨hb, rfl⟩) q
      | false => exact psImp (ps_for hp ok.calm (sndI it (fun _ _ _ => False) (.inr hb) ok h2) hg (sndSs ok hk hp b _ h4) (noFold h1 X.env)) fun D σ H q => sem_for (bb := brw it) (o := lockOf it) lockOf_ow (.inr rfl) q
    · cases h
  | .brk, st, h => by
    unfold chkS at h; split at h
    · exact psImp ps_break fun D σ H q => sem_brk q
    · cases h
  | .cnt, st, h => by
    unfold chkS at h; split at h
    · exact psImp ps_continue fun D σ H q => sem_cnt q
    · cases h
  | .pass, st, h => by
    unfold chkS at h; split at h
    · exact psImp ps_pass fun D σ H q => sem_pass q
    · exact psImp ps_doc fun D σ H q => sem_pass q
    · cases h
  | .never, st, h => psImp ps_never fun D σ H q => sem_never q
theorem sndSs (ok : XOk C gl cf X sc sc) (hk : sc.kind = .function) (hp : PassesOwn (model X.prog X.w) X.A X.env X.xe) : ∀ (ss : Ss) (l : List Stmt), chkSs C sc ss l = true → PSs X l (SemS X.K (execs gl cf W ss))
  | .nil, l, h => by
    cases l with
    | nil => exact pssImp pss_nil fun D σ H q => sem_pass q
    | cons a b => cases h
  | .cons s ss, l, h => by
    cases l with
    | nil => cases h
    | cons a b =>
      have h : (chkS C sc s a && chkSs C sc ss b) = true := h
      rw [Bool.and_eq_true] at h
      exact pssImp (pss_cons (sndS ok hk hp s a h.1) (sndSs ok hk hp ss b h.2)) fun D σ H q => sem_seq q
end
end
end Pi

end
section
set_option Elab.async false
set_option linter.all false
set_option maxRecDepth 100000
set_option maxHeartbeats 4000000
namespace Pi
open PySem PySem.Spec PyProof.Rows L2
theorem room66 {k : Nat} {A : Around} (r : L2.Room k A) : A.units + 66 < cLine := by have := r.un; omega
/-- a def of the text -/
structure Ent where
  nm : Str
  ps : List Str
  N : List Str
  st : Stmt
/-- the whole table -/
structure Tbl where
  gs : List Str
  fs : List (Str × Nat)
  kw : List (Nat × Nat × List Str × List Nat)
  bl : List Str
def Tbl.ck (T : Tbl) (N : List Str) : Ck := ⟨N, T.gs, T.fs, T.kw, T.bl⟩
def chkF (T : Tbl) (e : Ent) (F : Fn) : Bool :=
  C8.scC e.N e.ps (defScope e.st) && decide (e.ps.length = F.np) && decide (e.N.length = F.nn) && decide (F.np ≤ F.nn) && chkSs (T.ck e.N) (defScope e.st) F.body (defBody e.st)
/-- what the program's top leaves of one def -/
structure EntOk (K : PySem.W.Frag) (mg : Str → Option Value) (T : Tbl) (i : Nat) (e : Ent) (f : Addr) (fd : FuncData) : Prop where
  fn : L2.Fun K e.nm e.nm e.st f fd
  mgf : mg e.nm = some (.ref f)
  b : Binds K fd e.ps []
  kw : ∀ m ks pm, (i, m, ks, pm) ∈ T.kw → KwOk K fd e.ps m ks pm
section
variable {K : PySem.W.Frag} {gl : Nat → Option D} {P : List Fn} {W : Nat}
theorem run_succ {k i : Nat} {ws : List Vl} {st : Sto} {r : Vl × Sto} (h : run gl P W (k + 1) i ws st = some r) : ∃ F, P[i]? = some F ∧ ws.length = F.np ∧ out (execs gl (run gl P W k) W F.body (ws.map slotOf ++ List.replicate (F.nn - F.np) .no) st) = some r := by
  unfold run at h
  split at h
  · split at h
    · exact ⟨_, ‹_›, ‹_›, h⟩
    · cases h
  · cases h
theorem start_look (ws : List Vl) (n i : Nat) : look (ws.map slotOf ++ List.replicate n .no) i = match ws[i]? with | some w => slotOf w | none => .no := by
  unfold look
  rw [List.getD_eq_getElem?_getD]
  by_cases h : i < ws.length
  · rw [List.getElem?_append_left (by rw [List.length_map]; exact h), List.getElem?_map, List.getElem?_eq_getElem h]; rfl
  · rw [List.getElem?_append_right (by rw [List.length_map]; omega), List.getElem?_eq_none (l := ws) (by omega)]
    rw [List.length_map, List.getElem?_replicate]
    by_cases c : i - ws.length < n
    · rw [if_pos c]; rfl
    · rw [if_neg c]; rfl
theorem start_no (ws : List Vl) (n i : Nat) : ¬ IsOw (look (ws.map slotOf ++ List.replicate n .no) i) := fun ⟨x, h⟩ => by
  rw [start_look] at h
  cases q : ws[i]? with
  | none => rw [q] at h; rcases h with h | h <;> cases h
  | some w => rw [q] at h; cases w <;> (rcases h with h | h <;> cases h)
/-- a frame at its entry -/
theorem start_ok {M : List Addr} {U : Addr → Prop} {H : Hp} {st : Sto} {vs : List V} {ws : List Vl} {N : List Str} {n : Nat} (so : StoOk K M U H st) (ra : VsAll K M U H vs ws) (hn : ws.length + n = N.length) :
    SRl K M U H st (L2.start N vs) (ws.map slotOf ++ List.replicate n .no) := by
  have nv : ∀ a, ¬ OwV (L2.start N vs) (ws.map slotOf ++ List.replicate n .no) a := fun a ⟨i, x, h, _⟩ => start_no ws n i ⟨x, h⟩
  have hl := ra.length
  have er : ER K M U H st (L2.start N vs) (ws.map slotOf ++ List.replicate n .no) := by
    refine ⟨so, ?_, fun i => ?_⟩
    · unfold L2.start
      rw [List.length_append, List.length_append, List.length_map, List.length_map, List.length_replicate, List.length_replicate]
      omega
    · rw [start_look]
      cases q : ws[i]? with
      | none => trivial
      | some w =>
        obtain ⟨v, h1, h2⟩ := ra.get q
        have hv : ((L2.start N vs)[i]?).join = some v := by
          unfold L2.start
          rw [List.getElem?_append_left (by rw [List.length_map]; exact (List.getElem?_eq_some_iff.mp h1).1), List.getElem?_map, h1]; rfl
        rw [hv]
        cases w with
        | d x => exact ⟨v, rfl, h2⟩
        | fr x => exact h2.elim
        | rf m => obtain ⟨a, h3, rfl⟩ := h2; exact ⟨a, h3, rfl⟩
  exact ⟨er.less (fun a z => z.elim id fun z => (nv a z).elim) (fun a z => (nv a z).elim), fun i j a h => (start_no ws n i h).elim, fun a z => (nv a z).elim⟩
theorem sst_stp {M M' : List Addr} {H H' : Hp} {W W' : Addr → Prop} (s : SSt W M H W' M' H') (h : ∀ a, ¬ W a) : Stp M H M' H' := ⟨s.pre, s.new, fun a o n e => s.fr a o n (h a) e⟩
/-- the body of a def -/
theorem body_ok {k i : Nat} {N : List Str} {F : Fn} {np : Nat} (hP : P[i]? = some F) (hnp : np = F.np) (hnn : N.length = F.nn) (hle : F.np ≤ F.nn) {vs : List V} {H : Hp} {Q : VK} {E : XK} (h : spF K (run gl P W (k + 1) i) np vs H Q E) :
    SemS K (execs gl (run gl P W k) W F.body) { nx := fun _ H' => Q .non H', rt := Q } (L2.start N vs) H := by
  obtain ⟨hl, M, U, st, ws, w, st', so, ra, e, q⟩ := h
  obtain ⟨F', h1, h2, h3⟩ := run_succ e
  rw [hP] at h1
  cases h1
  have hs := start_ok (N := N) (n := F.nn - F.np) so ra (by rw [hnn, h2]; omega)
  have nw : ∀ a, ¬ OwW (L2.start N vs) (ws.map slotOf ++ List.replicate (F.nn - F.np) .no) a := fun a ⟨j, x, h, _⟩ => start_no ws _ j ⟨x, .inl h⟩
  cases hx : execs gl (run gl P W k) W F.body (ws.map slotOf ++ List.replicate (F.nn - F.np) .no) st with
  | none => rw [hx] at h3; cases h3
  | some p =>
    obtain ⟨fl, env', s1⟩ := p
    rw [hx] at h3
    refine ⟨M, U, st, _, fl, env', s1, hs, hx, ?_⟩
    cases fl with
    | nx =>
      cases h3
      exact fun M' H' σ' s l r => q _ H' M' (sst_stp s nw) (r.er.sto.less fun _ z => .inl z) .non
    | bk => cases h3
    | ct => cases h3
    | rt u =>
      cases h3
      cases w with
      | d x => exact fun v H' M' s so r => q v H' M' (sst_stp s nw) so r
      | fr x => exact fun a H' M' s h so r => q a H' M' (sst_stp s nw) (h.elim (fun z => (nw a z).elim) id) so r
      | rf n => exact fun a H' M' s so r => q a H' M' (sst_stp s nw) so r
/-- every def of the table does what the interpreter says -/
theorem all_ok {Pg : Program} {w : World} {mg : Str → Option Value} {base : Heap} {T : Tbl} {es : List Ent} (hE : ∀ (i : Nat) (e : Ent), es[i]? = some e → ∃ f fd, EntOk K mg T i e f fd)
    (hC : ∀ (i : Nat) (e : Ent), es[i]? = some e → ∃ F, P[i]? = some F ∧ chkF T e F = true) (hF : T.fs = es.map fun e => (e.nm, e.ps.length))
    (hB : ∀ x, T.bl.contains x = true → mg x = none) (hG : ∀ (i : Nat) (x : Str), T.gs[i]? = some x → ∃ d v u, gl i = some d ∧ mg x = some u ∧ RelV v u ∧ ∀ B H, Rp K B H v d) :
    ∀ (k i : Nat) (e : Ent) (f : Addr) (fd : FuncData), es[i]? = some e → EntOk K mg T i e f fd → FnOk Pg w K mg base L2.CX0 k f fd e.ps (spF K (run gl P W k i) e.ps.length)
  | 0, i, e, f, fd, he, ok => ⟨fun vs H Q E h => h.1, fun A outer s H args us vs Q E _ _ _ _ ⟨_, _, _, _, _, _, _, _, _, e, _⟩ => by cases e⟩
  | k + 1, i, e, f, fd, he, ok => by
    obtain ⟨F, hP, hc⟩ := hC i e he
    unfold chkF at hc
    simp only [Bool.and_eq_true, decide_eq_true_eq] at hc
    obtain ⟨⟨⟨⟨h1, h2⟩, h3⟩, h4⟩, h5⟩ := hc
    have S := C8.fnScope_by h1
    refine L2.Fun.ok (N := e.N) ok.fn S (fun vs H Q E h => h.1) fun cdv A outer s H vs Q E hr h => ⟨_, sndSs (X := (cxOf L2.CX0 Pg w K mg base e.N e.nm (defScope e.st) f cdv A outer s H E).nox) (C := T.ck e.N) (gl := gl) (cf := run gl P W k) (sc := defScope e.st) (W := W) ⟨rfl, ?_, rfl, rfl, fun _ _ => rfl, (room66 hr), hB, hG, fun j nm n hj => ?_⟩ ?_ PassesOwn.never F.body _ h5, body_ok hP h2 h3 h4 h⟩
    · have hn := h1
      unfold C8.scC at hn
      simp only [Bool.and_eq_true, decide_eq_true_eq] at hn
      exact hn.1.1.1.2
    · have hj : T.fs[j]? = some (nm, n) := hj
      rw [hF, List.getElem?_map] at hj
      obtain ⟨e2, h6, h7⟩ := Option.map_eq_some_iff.mp hj
      cases h7
      obtain ⟨f2, fd2, ok2⟩ := hE j e2 h6
      obtain ⟨F2, hP2, hc2⟩ := hC j e2 h6
      refine ⟨k, f2, fd2, e2.ps, rfl, all_ok hE hC hF hB hG k j e2 f2 fd2 h6 ok2, hr, ok2.mgf, ok2.fn.kp, ok2.b, fun ws st r hr => ?_, ok2.kw⟩
      cases k with
      | zero => cases hr
      | succ k =>
        obtain ⟨F3, q1, q2, _⟩ := run_succ hr
        rw [hP2] at q1
        cases q1
        unfold chkF at hc2
        simp only [Bool.and_eq_true, decide_eq_true_eq] at hc2
        rw [q2, hc2.1.1.1.2]
    · have hn := h1
      unfold C8.scC at hn
      simp only [Bool.and_eq_true, decide_eq_true_eq] at hn
      exact hn.1.1.1.1.1.1
/-- the law itself: a list of whole numbers -/
theorem law_ok {Pg : Program} {w : World} {mg : Str → Option Value} {base : Heap} {k i : Nat} {f : Addr} {fd : FuncData} {x : Str} (F : FnOk Pg w K mg base L2.CX0 k f fd [x] (spF K (run gl P W k i) 1))
    (h : ∀ ns : List Int, ns.length ≤ 63 → ∃ st', run gl P W k i [.d (.list (ns.map .int))] [] = some (.d (.bool true), st')) :
    FnOk Pg w K mg base L2.CX0 k f fd [x] (fun vs H Q _ => ∃ (a : Addr) (ns : List Int), vs = [.ref a] ∧ SqL K H a (ns.map V.int) ∧ ns.length ≤ 63 ∧ ∀ H', Q (.bl true) H') := F.imp fun vs H Q E ⟨a, ns, e, hS, hl, q⟩ => by
  subst e
  obtain ⟨st', hr⟩ := h ns hl
  have ra : ∀ l : List Int, RpAll K (Bar [] fun _ => False) H (l.map V.int) (l.map PyData.int) := fun l => by
    induction l with
    | nil => exact .nil
    | cons b l ih => exact .cons (.int b) ih
  have at' : AtL K (Bar [] fun _ => False) H a (ns.map V.int) := by
    rcases hS with hS | hS
    · exact .inl ⟨fun z => z.elim (fun z => nomatch z) id, hS⟩
    · exact .inr hS
  exact ⟨rfl, [], fun _ => False, [], _, _, st', ⟨rfl, List.nodup_nil, fun _ z => (nomatch z), fun n xs z => (by simp at z), fun _ z => z.elim⟩, .cons (w := .d (.list (ns.map .int))) (.lst at' (ra ns)) .nil, hr, fun v H' M' s so r => by cases r; exact q H'⟩
end
end Pi

end
section
set_option Elab.async false
set_option linter.all false
set_option maxRecDepth 100000
set_option maxHeartbeats 4000000
namespace Pi
/-! ### what is known of calls: the interpreter grows with it -/
def Lo {α : Type} (a b : Option α) : Prop := ∀ x, a = some x → b = some x
theorem Lo.rfl {α : Type} {a : Option α} : Lo a a := fun _ h => h
theorem Lo.none {α : Type} {a : Option α} : Lo .none a := fun _ h => nomatch h
theorem Lo.bnd {α β : Type} {r r' : Option (α × Sto)} {k k' : α → Sto → Option (β × Sto)} (h : Lo r r') (g : ∀ a s, Lo (k a s) (k' a s)) : Lo (bnd r k) (bnd r' k') := fun x e => by
  obtain ⟨a, s, e1, e2⟩ := bnd_eq e
  rw [h _ e1]
  exact g a s _ e2
theorem Lo.ite {α : Type} {c : Prop} [Decidable c] {a a' b b' : Option α} (h : Lo a a') (g : Lo b b') : Lo (if c then a else b) (if c then a' else b') := by
  by_cases q : c
  · rw [if_pos q, if_pos q]; exact h
  · rw [if_neg q, if_neg q]; exact g
theorem Lo.toD {r r' : Option (Vl × Sto)} (h : Lo r r') : Lo (toD r) (toD r') := Lo.bnd h fun _ _ => Lo.rfl
theorem Lo.bor {e : E} {r r' : Option (Vl × Sto)} {env : Ev} {st : Sto} (h : Lo r r') : Lo (bor e r env st) (bor e r' env st) := by
  cases e with
  | v i => exact Lo.rfl
  | _ => exact Lo.toD h
theorem Lo.tru {r r' : Option (D × Sto)} (h : Lo r r') : Lo (tru r) (tru r') := Lo.bnd h fun _ _ => Lo.rfl
theorem turns_mono {bd : D → Ev → Option Ev} {tt tt' : Ev → Sto → Option (Bool × Sto)} {el el' : Ev → Sto → Option (D × Sto)} (h1 : ∀ e s, Lo (tt e s) (tt' e s)) (h2 : ∀ e s, Lo (el e s) (el' e s)) (env : Ev) : ∀ (xs acc : List D) (st : Sto), Lo (turns bd tt el env xs acc st) (turns bd tt' el' env xs acc st)
  | [], acc, st => Lo.rfl
  | x :: xs, acc, st => by
    unfold turns
    cases bd x env with
    | none => exact Lo.none
    | some e1 =>
      refine Lo.bnd (h1 _ _) fun b s => Lo.ite (Lo.bnd (h2 _ _) fun y s2 => Lo.ite (turns_mono h1 h2 env xs _ _) Lo.none) (turns_mono h1 h2 env xs _ _)
theorem turns2_mono {bd : D → Ev → Option Ev} {tt tt' : Ev → Sto → Option (Bool × Sto)} {el el' : Ev → List D → Sto → Option (List D × Sto)} (h1 : ∀ e s, Lo (tt e s) (tt' e s)) (h2 : ∀ e a s, Lo (el e a s) (el' e a s)) (env : Ev) : ∀ (xs acc : List D) (st : Sto), Lo (turns2 bd tt el env xs acc st) (turns2 bd tt' el' env xs acc st)
  | [], acc, st => Lo.rfl
  | x :: xs, acc, st => by
    unfold turns2
    cases bd x env with
    | none => exact Lo.none
    | some e1 =>
      refine Lo.bnd (h1 _ _) fun b s => Lo.ite (Lo.bnd (h2 _ _ _) fun y s2 => turns2_mono h1 h2 env xs _ _) (turns2_mono h1 h2 env xs _ _)
section
variable {gl : Nat → Option D} {cf cf' : Cf}
mutual
theorem evM (h : ∀ i ws st, Lo (cf i ws st) (cf' i ws st)) : ∀ (e : E) (env : Ev) (st : Sto), Lo (ev gl cf e env st) (ev gl cf' e env st)
  | .non, env, st => Lo.rfl
  | .bl b, env, st => Lo.rfl
  | .int i, env, st => Lo.rfl
  | .str s, env, st => Lo.rfl
  | .v i, env, st => Lo.rfl
  | .g i, env, st => Lo.rfl
  | .tup es, env, st => Lo.bnd (evsM h es env st) fun _ _ => Lo.rfl
  | .lst es, env, st => Lo.bnd (evsM h es env st) fun _ _ => Lo.rfl
  | .bin op a b, env, st => Lo.bnd (Lo.bor (evM h a _ _)) fun _ _ => Lo.bnd (Lo.bor (evM h b _ _)) fun _ _ => Lo.rfl
  | .neg a, env, st => Lo.bnd (Lo.bor (evM h a _ _)) fun _ _ => Lo.rfl
  | .rep a b, env, st => Lo.bnd (evM h a _ _) fun _ _ => Lo.bnd (Lo.bor (evM h b _ _)) fun _ _ => Lo.rfl
  | .cmp op a b, env, st => Lo.bnd (Lo.bor (evM h a _ _)) fun _ _ => Lo.bnd (Lo.bor (evM h b _ _)) fun _ _ => Lo.rfl
  | .chain o o' a b c, env, st => Lo.bnd (Lo.bor (evM h a _ _)) fun _ _ => Lo.bnd (Lo.bor (evM h b _ _)) fun _ _ => Lo.bnd Lo.rfl fun _ _ => Lo.ite (Lo.bnd (Lo.bor (evM h c _ _)) fun _ _ => Lo.rfl) Lo.rfl
  | .isN a, env, st => Lo.bnd (Lo.bor (evM h a _ _)) fun _ _ => Lo.rfl
  | .isnN a, env, st => Lo.bnd (Lo.bor (evM h a _ _)) fun _ _ => Lo.rfl
  | .and a b, env, st => Lo.bnd (Lo.toD (evM h a _ _)) fun _ _ => Lo.bnd Lo.rfl fun _ _ => Lo.ite (evM h b _ _) Lo.rfl
  | .or a b, env, st => Lo.bnd (evM h a _ _) fun _ _ => Lo.bnd Lo.rfl fun _ _ => Lo.bnd Lo.rfl fun _ _ => Lo.ite Lo.rfl (evM h b _ _)
  | .not a, env, st => Lo.bnd (Lo.tru (Lo.bor (evM h a _ _))) fun _ _ => Lo.rfl
  | .ite c a b, env, st => Lo.bnd (Lo.tru (Lo.bor (evM h c _ _))) fun _ _ => Lo.ite (evM h a _ _) (evM h b _ _)
  | .ix a i, env, st => Lo.bnd (Lo.bor (evM h a _ _)) fun _ _ => Lo.bnd (Lo.bor (evM h i _ _)) fun _ _ => Lo.rfl
  | .bx i k, env, st => Lo.bnd (Lo.bor (evM h k _ _)) fun _ _ => Lo.rfl
  | .sl a lo hi, env, st => Lo.bnd (Lo.bor (evM h a _ _)) fun _ _ => Lo.bnd (evoM h lo _ _) fun _ _ => Lo.bnd (evoM h hi _ _) fun _ _ => Lo.rfl
  | .rev a, env, st => Lo.bnd (Lo.bor (evM h a _ _)) fun _ _ => Lo.rfl
  | .call f es, env, st => Lo.bnd (evaM h es _ _) fun _ _ => h _ _ _
  | .callk f es ks pm, env, st => Lo.bnd (evaM h es _ _) fun _ _ => Lo.bnd (evaM h ks _ _) fun _ _ => Lo.bnd Lo.rfl fun _ _ => h _ _ _
  | .f1 f a, env, st => Lo.bnd (Lo.bor (evM h a _ _)) fun _ _ => Lo.rfl
  | .f2 f a b, env, st => Lo.bnd (Lo.bor (evM h a _ _)) fun _ _ => Lo.bnd (Lo.bor (evM h b _ _)) fun _ _ => Lo.rfl
  | .m1 m a b, env, st => Lo.bnd (Lo.bor (evM h a _ _)) fun _ _ => Lo.bnd (Lo.bor (evM h b _ _)) fun _ _ => Lo.rfl
  | .idx a b, env, st => Lo.bnd (Lo.bor (evM h a _ _)) fun _ _ => Lo.bnd (Lo.bor (evM h b _ _)) fun _ _ => Lo.rfl
  | .dzip a b, env, st => Lo.bnd (Lo.bor (evM h a _ _)) fun _ _ => Lo.bnd (Lo.bor (evM h b _ _)) fun _ _ => Lo.rfl
  | .dnew t, env, st => Lo.rfl
  | .dget2 a k d, env, st => Lo.bnd (Lo.bor (evM h a _ _)) fun _ _ => Lo.bnd (Lo.bor (evM h k _ _)) fun _ _ => Lo.bnd (Lo.toD (evM h d _ _)) fun _ _ => Lo.rfl
  | .isi a ts, env, st => Lo.bnd (Lo.bor (evM h a _ _)) fun _ _ => Lo.rfl
  | .trg a, env, st => Lo.bnd (Lo.bor (evM h a _ _)) fun _ _ => Lo.rfl
  | .lrg a, env, st => Lo.bnd (Lo.bor (evM h a _ _)) fun _ _ => Lo.rfl
  | .lrg2 a b, env, st => Lo.bnd (Lo.bor (evM h a _ _)) fun _ _ => Lo.bnd (Lo.bor (evM h b _ _)) fun _ _ => Lo.rfl
  | .lc vs e t it c, env, st => Lo.bnd (eviM h it _ _) fun _ _ => Lo.bnd (turns_mono (fun e1 s => evcM h c e1 s) (fun e1 s => Lo.toD (evM h e e1 s)) _ _ _ _) fun _ _ => Lo.rfl
  | .lc2 vs ws e t it c t' it' c', env, st => Lo.bnd (eviM h it _ _) fun _ _ => Lo.bnd (turns2_mono (fun e1 s => evcM h c e1 s) (fun e1 a s => Lo.bnd (eviM h it' _ _) fun _ _ => turns_mono (fun e1 s => evcM h c' e1 s) (fun e1 s => Lo.toD (evM h e e1 s)) _ _ _ _) _ _ _ _) fun _ _ => Lo.rfl
theorem evsM (h : ∀ i ws st, Lo (cf i ws st) (cf' i ws st)) : ∀ (es : Es) (env : Ev) (st : Sto), Lo (evs gl cf es env st) (evs gl cf' es env st)
  | .nil, env, st => Lo.rfl
  | .cons e es, env, st => Lo.bnd (Lo.toD (evM h e _ _)) fun _ _ => Lo.bnd (evsM h es _ _) fun _ _ => Lo.rfl
theorem evaM (h : ∀ i ws st, Lo (cf i ws st) (cf' i ws st)) : ∀ (es : Es) (env : Ev) (st : Sto), Lo (eva gl cf es env st) (eva gl cf' es env st)
  | .nil, env, st => Lo.rfl
  | .cons e es, env, st => Lo.bnd (evM h e _ _) fun _ _ => Lo.bnd (evaM h es _ _) fun _ _ => Lo.rfl
theorem evoM (h : ∀ i ws st, Lo (cf i ws st) (cf' i ws st)) : ∀ (o : Oe) (env : Ev) (st : Sto), Lo (evo gl cf o env st) (evo gl cf' o env st)
  | .no, env, st => Lo.rfl
  | .yes e, env, st => Lo.bnd (Lo.bor (evM h e _ _)) fun _ _ => Lo.rfl
theorem evcM (h : ∀ i ws st, Lo (cf i ws st) (cf' i ws st)) : ∀ (o : Oe) (env : Ev) (st : Sto), Lo (evc gl cf o env st) (evc gl cf' o env st)
  | .no, env, st => Lo.rfl
  | .yes e, env, st => Lo.tru (Lo.bor (evM h e _ _))
theorem eviM (h : ∀ i ws st, Lo (cf i ws st) (cf' i ws st)) : ∀ (o : It) (env : Ev) (st : Sto), Lo (evi gl cf o env st) (evi gl cf' o env st)
  | .of e, env, st => Lo.bnd (Lo.bor (evM h e _ _)) fun _ _ => Lo.rfl
  | .rng1 a, env, st => Lo.bnd (Lo.bor (evM h a _ _)) fun _ _ => Lo.rfl
  | .rng2 a b, env, st => Lo.bnd (Lo.bor (evM h a _ _)) fun _ _ => Lo.bnd (Lo.bor (evM h b _ _)) fun _ _ => Lo.rfl
  | .rng3 a b c, env, st => Lo.bnd (Lo.bor (evM h a _ _)) fun _ _ => Lo.bnd (Lo.bor (evM h b _ _)) fun _ _ => Lo.bnd (Lo.bor (evM h c _ _)) fun _ _ => Lo.rfl
  | .enm a, env, st => Lo.bnd (Lo.bor (evM h a _ _)) fun _ _ => Lo.rfl
  | .zip a b, env, st => Lo.bnd (Lo.bor (evM h a _ _)) fun _ _ => Lo.bnd (Lo.bor (evM h b _ _)) fun _ _ => Lo.rfl
end
end
end Pi

end
section
set_option Elab.async false
set_option linter.all false
set_option maxRecDepth 100000
set_option maxHeartbeats 4000000
namespace Pi
theorem forL_mono {bd : D → Ev → Option Ev} {b b' : Ev → Sto → SR} (h : ∀ e s, Lo (b e s) (b' e s)) : ∀ (xs : List D) (env : Ev) (st : Sto), Lo (forL bd b xs env st) (forL bd b' xs env st)
  | [], env, st => Lo.rfl
  | x :: xs, env, st => fun r q => by
    unfold forL at q ⊢
    cases hb : bd x env with
    | none => simp only [hb] at q; cases q
    | some e1 =>
      simp only [hb] at q ⊢
      cases hc : b e1 st with
      | none => simp only [hc] at q; cases q
      | some p =>
        obtain ⟨f, e2, s2⟩ := p
        simp only [hc] at q
        simp only [h _ _ _ hc]
        cases f with
        | nx => exact forL_mono h xs _ _ _ q
        | ct => exact forL_mono h xs _ _ _ q
        | bk => exact q
        | rt w => exact q
theorem whL_mono {tt tt' : Ev → Sto → Option (Bool × Sto)} {b b' : Ev → Sto → SR} (h1 : ∀ e s, Lo (tt e s) (tt' e s)) (h : ∀ e s, Lo (b e s) (b' e s)) : ∀ (n : Nat) (env : Ev) (st : Sto), Lo (whL tt b n env st) (whL tt' b' n env st)
  | 0, env, st => Lo.rfl
  | n + 1, env, st => fun r q => by
    unfold whL at q ⊢
    cases hb : tt env st with
    | none => simp only [hb] at q; cases q
    | some p =>
      obtain ⟨k, s1⟩ := p
      simp only [hb] at q
      simp only [h1 _ _ _ hb]
      cases k with
      | false => exact q
      | true =>
        simp only [] at q ⊢
        cases hc : b env s1 with
        | none => simp only [hc] at q; cases q
        | some p =>
          obtain ⟨f, e2, s2⟩ := p
          simp only [hc] at q
          simp only [h _ _ _ hc]
          cases f with
          | nx => exact whL_mono h1 h n _ _ _ q
          | ct => exact whL_mono h1 h n _ _ _ q
          | bk => exact q
          | rt w => exact q
section
variable {gl : Nat → Option D} {cf cf' : Cf}
theorem Lo.sbnd {a a' : SR} {k k' : Ev → Sto → SR} (h : Lo a a') (g : ∀ e s, Lo (k e s) (k' e s)) : Lo (sbnd a k) (sbnd a' k') := fun r q => by
  cases ha : a with
  | none => rw [ha] at q; cases q
  | some p =>
    obtain ⟨f, e, s⟩ := p
    rw [ha] at q
    rw [h _ ha]
    cases f with
    | nx => exact g _ _ _ q
    | ct => exact q
    | bk => exact q
    | rt w => exact q
theorem putAll_mono {kf kf' : E → Ev → Sto → Option (D × Sto)} (h : ∀ k e s, Lo (kf k e s) (kf' k e s)) : ∀ (ts : List (Nat × Option E)) (xs : List D) (env : Ev) (st : Sto), Lo (putAll kf ts xs env st) (putAll kf' ts xs env st)
  | [], [], env, st => Lo.rfl
  | [], _ :: _, env, st => Lo.rfl
  | (i, none) :: ts, [], env, st => Lo.rfl
  | (i, some k) :: ts, [], env, st => Lo.rfl
  | (i, none) :: ts, x :: xs, env, st => fun r q => by
    obtain ⟨hi, q⟩ := dec2' (show (if i < env.length then putAll kf ts xs (env.set i (.sh x)) st else none) = some r from q)
    show (if i < env.length then putAll kf' ts xs (env.set i (.sh x)) st else none) = some r
    rw [if_pos hi]
    exact putAll_mono h ts xs _ _ _ q
  | (i, some k) :: ts, x :: xs, env, st => Lo.bnd (h k env st) fun kx s1 r q => by
    obtain ⟨p, e1, e2⟩ := Option.bind_eq_some_iff.mp q
    exact Option.bind_eq_some_iff.mpr ⟨p, e1, putAll_mono h ts xs _ _ _ e2⟩
mutual
theorem exM (h : ∀ i ws st, Lo (cf i ws st) (cf' i ws st)) (W : Nat) : ∀ (s : S) (env : Ev) (st : Sto), Lo (exec gl cf W s env st) (exec gl cf' W s env st)
  | .asg t e, env, st => fun r q => by
    unfold exec at q ⊢
    cases ha : toD (ev gl cf e env st) with
    | none => simp only [ha] at q; cases q
    | some p => simp only [ha] at q; simp only [Lo.toD (evM h e env st) _ ha]; exact q
  | .own i e, env, st => fun r q => by
    unfold exec at q ⊢
    cases ha : ev gl cf e env st with
    | none => simp only [ha] at q; cases q
    | some p => simp only [ha] at q; simp only [evM h e env st _ ha]; exact q
  | .abox i e, env, st => fun r q => by
    unfold exec at q ⊢
    cases ha : ev gl cf e env st with
    | none => simp only [ha] at q; cases q
    | some p => simp only [ha] at q; simp only [evM h e env st _ ha]; exact q
  | .mv i j, env, st => Lo.rfl
  | .fz is s, env, st => fun r q => by
    unfold exec at q ⊢
    cases ha : freeze env is with
    | none => simp only [ha] at q; cases q
    | some p => simp only [ha] at q ⊢; exact exM h W s _ _ _ q
  | .stix i k e, env, st => fun r q => by
    unfold exec at q ⊢
    cases ha : toD (ev gl cf e env st) with
    | none => simp only [ha] at q; cases q
    | some p =>
      obtain ⟨y, s⟩ := p
      simp only [ha] at q
      simp only [Lo.toD (evM h e env st) _ ha]
      cases hb : bor k (ev gl cf k env s) env s with
      | none => simp only [hb] at q; cases q
      | some p => simp only [hb] at q; simp only [Lo.bor (evM h k env s) _ hb]; exact q
  | .dputT i ks e, env, st => fun r q => by
    unfold exec at q ⊢
    cases ha : toD (ev gl cf e env st) with
    | none => simp only [ha] at q; cases q
    | some p =>
      obtain ⟨y, s⟩ := p
      simp only [ha] at q
      simp only [Lo.toD (evM h e env st) _ ha]
      cases hb : evs gl cf ks env s with
      | none => simp only [hb] at q; cases q
      | some p => simp only [hb] at q; simp only [evsM h ks env s _ hb]; exact q
  | .app i e, env, st => fun r q => by
    unfold exec at q ⊢
    cases ha : toD (ev gl cf e env st) with
    | none => simp only [ha] at q; cases q
    | some p => simp only [ha] at q; simp only [Lo.toD (evM h e env st) _ ha]; exact q
  | .ext i e, env, st => fun r q => by
    unfold exec at q ⊢
    cases ha : ev gl cf e env st with
    | none => simp only [ha] at q; cases q
    | some p => simp only [ha] at q; simp only [evM h e env st _ ha]; exact q
  | .apop i j k, env, st => fun r q => by
    unfold exec at q ⊢
    cases ha : bor k (ev gl cf k env st) env st with
    | none => simp only [ha] at q; cases q
    | some p => simp only [ha] at q; simp only [Lo.bor (evM h k env st) _ ha]; exact q
  | .par i oi e j oj f, env, st => fun r q => by
    unfold exec at q ⊢
    cases ha : ev gl cf e env st with
    | none => simp only [ha] at q; cases q
    | some p =>
      obtain ⟨w, s⟩ := p
      simp only [ha] at q
      simp only [evM h e env st _ ha]
      cases hb : ev gl cf f env s with
      | none => simp only [hb] at q; cases q
      | some p => simp only [hb] at q; simp only [evM h f env s _ hb]; exact q
  | .parS ts es, env, st => fun r q => by
    unfold exec at q ⊢
    cases ha : evs gl cf es env st with
    | none => simp only [ha] at q; cases q
    | some p =>
      obtain ⟨xs, s⟩ := p
      simp only [ha] at q
      simp only [evsM h es env st _ ha]
      obtain ⟨p, e1, rfl⟩ := Option.map_eq_some_iff.mp q
      rw [putAll_mono (fun k e s => Lo.bor (evM h k e s)) ts xs env s _ e1]
      rfl
  | .iteL is c a b, env, st => fun r q => by
    unfold exec at q ⊢
    cases hf : freeze env is with
    | none => simp only [hf] at q; cases q
    | some e1 =>
      simp only [hf] at q ⊢
      cases ha : tru (bor c (ev gl cf c e1 st) e1 st) with
      | none => simp only [ha] at q; cases q
      | some p =>
        obtain ⟨k, s⟩ := p
        simp only [ha] at q
        simp only [Lo.tru (Lo.bor (evM h c e1 st)) _ ha]
        cases k with
        | true =>
          obtain ⟨hs, q⟩ := dec2' (show (if scalS s = true then execs gl cf W a env s else none) = some r from q)
          show (if scalS s = true then _ else none) = some r
          rw [if_pos hs]
          exact exsM h W a _ _ _ q
        | false =>
          obtain ⟨hs, q⟩ := dec2' (show (if scalS s = true then execs gl cf W b env s else none) = some r from q)
          show (if scalS s = true then _ else none) = some r
          rw [if_pos hs]
          exact exsM h W b _ _ _ q
  | .ex e, env, st => fun r q => by
    unfold exec at q ⊢
    cases ha : ev gl cf e env st with
    | none => simp only [ha] at q; cases q
    | some p => simp only [ha] at q; simp only [evM h e env st _ ha]; exact q
  | .ret e, env, st => fun r q => by
    unfold exec at q ⊢
    cases ha : ev gl cf e env st with
    | none => simp only [ha] at q; cases q
    | some p => simp only [ha] at q; simp only [evM h e env st _ ha]; exact q
  | .reto i, env, st => Lo.rfl
  | .ret0, env, st => Lo.rfl
  | .rbox es, env, st => fun r q => by
    unfold exec at q ⊢
    cases ha : evs gl cf es env st with
    | none => simp only [ha] at q; cases q
    | some p => simp only [ha] at q; simp only [evsM h es env st _ ha]; exact q
  | .ite c a b, env, st => fun r q => by
    unfold exec at q ⊢
    cases ha : tru (bor c (ev gl cf c env st) env st) with
    | none => simp only [ha] at q; cases q
    | some p =>
      obtain ⟨k, s⟩ := p
      simp only [ha] at q
      simp only [Lo.tru (Lo.bor (evM h c env st)) _ ha]
      cases k with
      | true => exact exsM h W a _ _ _ q
      | false => exact exsM h W b _ _ _ q
  | .wh c b, env, st => whL_mono (fun e s => Lo.tru (Lo.bor (evM h c e s))) (fun e s => exsM h W b e s) W env st
  | .for' t it b, env, st => fun r q => by
    unfold exec at q ⊢
    cases ha : evi gl cf it (hideB (brw it) (lock (lockOf it env) env)) st with
    | none => simp only [ha] at q; cases q
    | some p =>
      obtain ⟨xs, s⟩ := p
      simp only [ha] at q
      simp only [eviM h it _ _ _ ha]
      cases hf : forL (bindT t) (fun e1 s1 => execs gl cf W b e1 s1) xs (lock (lockOf it env) env) s with
      | none => rw [hf] at q; cases hl : lockOf it env <;> (rw [hl] at q; cases q)
      | some p =>
        rw [hf] at q
        rw [forL_mono (fun e s => exsM h W b e s) _ _ _ _ hf]
        exact q
  | .brk, env, st => Lo.rfl
  | .cnt, env, st => Lo.rfl
  | .pass, env, st => Lo.rfl
  | .never, env, st => Lo.rfl
theorem exsM (h : ∀ i ws st, Lo (cf i ws st) (cf' i ws st)) (W : Nat) : ∀ (s : Ss) (env : Ev) (st : Sto), Lo (execs gl cf W s env st) (execs gl cf' W s env st)
  | .nil, env, st => Lo.rfl
  | .cons s ss, env, st => Lo.sbnd (exM h W s env st) fun e s => exsM h W ss e s
end
theorem out_mono {a b : SR} (h : Lo a b) : Lo (out a) (out b) := fun r q => by
  cases ha : a with
  | none => rw [ha] at q; cases q
  | some p => rw [ha] at q; rw [h _ ha]; exact q
/-- a call, by what is known of the calls within -/
theorem run_of {P : List Fn} {W k i : Nat} {F : Fn} {ws : List Vl} {st : Sto} {r : Vl × Sto} {cf : Cf} (hP : P[i]? = some F) (hn : ws.length = F.np) (h : ∀ i ws st, Lo (cf i ws st) (run gl P W k i ws st))
    (e : out (execs gl cf W F.body (ws.map slotOf ++ List.replicate (F.nn - F.np) .no) st) = some r) : run gl P W (k + 1) i ws st = some r := by
  have e' := out_mono (exsM (gl := gl) h W F.body (ws.map slotOf ++ List.replicate (F.nn - F.np) .no) st) _ e
  show (match P[i]? with | some F => if ws.length = F.np then out (execs gl (run gl P W k) W F.body (ws.map slotOf ++ List.replicate (F.nn - F.np) .no) st) else none | none => none) = some r
  rw [hP]
  show (if ws.length = F.np then _ else _) = _
  rw [if_pos hn]
  exact e'
theorem run_mono1 {P : List Fn} {W : Nat} : ∀ (k i : Nat) (ws : List Vl) (st : Sto), Lo (run gl P W k i ws st) (run gl P W (k + 1) i ws st)
  | 0, i, ws, st => Lo.none
  | k + 1, i, ws, st => fun r q => by
    obtain ⟨F, h1, h2, h3⟩ := run_succ q
    exact run_of h1 h2 (fun i ws st => run_mono1 k i ws st) h3
theorem run_mono {P : List Fn} {W k j : Nat} (h : k ≤ j) (i : Nat) (ws : List Vl) (st : Sto) : Lo (run gl P W k i ws st) (run gl P W j i ws st) := by
  induction h with
  | refl => exact Lo.rfl
  | step _ ih => exact fun r q => run_mono1 _ i ws st r (ih r q)
end
end Pi

end
section
set_option Elab.async false
set_option linter.all false
set_option maxRecDepth 100000
set_option maxHeartbeats 4000000
namespace Pi
/-! ### plain laws of the interpreter: comprehensions that only read, loops with an invariant -/
theorem rg2_nat {n : Nat} (h : n ≤ SL) : rg2D 0 (n : Nat) = some ((List.range n).map fun k => .int ((k : Nat) : Int)) := by
  unfold rg2D
  have : n ≤ 16777216 := h
  rw [if_pos (by simp; omega)]
  simp
section
variable {gl : Nat → Option D} {cf : Cf} {W : Nat}
theorem turns_map {α : Type} {bd : D → Ev → Option Ev} {tt : Ev → Sto → Option (Bool × Sto)} {el : Ev → Sto → Option (D × Sto)} {env : Ev} {st : Sto} (a : α → D) (f : α → D) :
    ∀ (xs : List α) (acc : List D), (∀ x ∈ xs, ∃ e1, bd (a x) env = some e1 ∧ tt e1 st = some (true, st) ∧ el e1 st = some (f x, st)) → acc.length + xs.length ≤ SL → turns bd tt el env (xs.map a) acc st = some (acc ++ xs.map f, st)
  | [], acc, _, _ => by simp [turns]
  | x :: xs, acc, h, hl => by
    obtain ⟨e1, h1, h2, h3⟩ := h x List.mem_cons_self
    rw [List.length_cons] at hl
    rw [List.map_cons]
    unfold turns
    simp only [h1, h2, h3, bnd_some]
    rw [if_pos trivial, if_pos (by omega), turns_map a f xs (acc ++ [f x]) (fun y hy => h y (List.mem_cons_of_mem _ hy)) (by rw [List.length_append, List.length_singleton]; omega)]
    simp
/-- with a store that changes -/
theorem turns_inv {bd : D → Ev → Option Ev} {tt : Ev → Sto → Option (Bool × Sto)} {el : Ev → Sto → Option (D × Sto)} {env : Ev} (I : List D → Sto → Prop) :
    ∀ (xs acc : List D) (st : Sto), I acc st → (∀ x ∈ xs, ∀ acc st, I acc st → ∃ e1 y s2, bd x env = some e1 ∧ tt e1 st = some (true, st) ∧ el e1 st = some (y, s2) ∧ I (acc ++ [y]) s2) → acc.length + xs.length ≤ SL →
      ∃ ys s2, turns bd tt el env xs acc st = some (ys, s2) ∧ I ys s2 ∧ ys.length = acc.length + xs.length
  | [], acc, st, hi, _, _ => ⟨acc, st, rfl, hi, rfl⟩
  | x :: xs, acc, st, hi, h, hl => by
    obtain ⟨e1, y, s2, h1, h2, h3, h4⟩ := h x List.mem_cons_self acc st hi
    rw [List.length_cons] at hl
    obtain ⟨ys, s3, h5, h6, h7⟩ := turns_inv I xs (acc ++ [y]) s2 h4 (fun z hz => h z (List.mem_cons_of_mem _ hz)) (by rw [List.length_append, List.length_singleton]; omega)
    refine ⟨ys, s3, ?_, h6, by rw [h7, List.length_append, List.length_singleton, List.length_cons]; omega⟩
    unfold turns
    simp only [h1, h2, h3, bnd_some]
    rw [if_pos trivial, if_pos (by omega)]
    exact h5
theorem ev_lc {α : Type} {vs : List Nat} {e : E} {t : Tg} {it : It} {c : Oe} {env : Ev} {st : Sto} {xs : List α} (a f : α → D) (hi : evi gl cf it env st = some (xs.map a, st))
    (h : ∀ x ∈ xs, ∃ e1, bindT t (a x) (wipeE env vs) = some e1 ∧ evc gl cf c e1 st = some (true, st) ∧ toD (ev gl cf e e1 st) = some (f x, st)) (hl : xs.length ≤ SL) :
    ev gl cf (.lc vs e t it c) env st = some (.fr (.list (xs.map f)), st) := by
  show bnd (evi gl cf it env st) (fun xs s => bnd (turns (bindT t) (fun e1 s1 => evc gl cf c e1 s1) (fun e1 s1 => toD (ev gl cf e e1 s1)) (wipeE env vs) xs [] s) fun ys s' => some (Vl.fr (.list ys), s')) = _
  rw [hi, bnd_some, turns_map a f xs [] h (by simpa using hl), bnd_some]
  rfl
theorem ev_lcS {vs : List Nat} {e : E} {t : Tg} {it : It} {c : Oe} {env : Ev} {st : Sto} {xs : List D} (I : List D → Sto → Prop) (hi : evi gl cf it env st = some (xs, st)) (h0 : I [] st)
    (h : ∀ x ∈ xs, ∀ acc st, I acc st → ∃ e1 y s2, bindT t x (wipeE env vs) = some e1 ∧ evc gl cf c e1 st = some (true, st) ∧ toD (ev gl cf e e1 st) = some (y, s2) ∧ I (acc ++ [y]) s2) (hl : xs.length ≤ SL) :
    ∃ ys s2, ev gl cf (.lc vs e t it c) env st = some (.fr (.list ys), s2) ∧ I ys s2 ∧ ys.length = xs.length := by
  obtain ⟨ys, s2, h1, h2, h3⟩ := turns_inv (bd := bindT t) (tt := fun e1 s1 => evc gl cf c e1 s1) (el := fun e1 s1 => toD (ev gl cf e e1 s1)) (env := wipeE env vs) I xs [] st h0 h (by simpa using hl)
  refine ⟨ys, s2, ?_, h2, by simpa using h3⟩
  show bnd (evi gl cf it env st) (fun xs s => bnd (turns (bindT t) (fun e1 s1 => evc gl cf c e1 s1) (fun e1 s1 => toD (ev gl cf e e1 s1)) (wipeE env vs) xs [] s) fun ys s' => some (Vl.fr (.list ys), s')) = _
  rw [hi, bnd_some, h1, bnd_some]
theorem bor_E {a : E} {env : Ev} {st s : Sto} {w : Vl} {x : D} (n : isV a = false) (h : ev gl cf a env st = some (w, s)) (hw : w.toD = some x) : bor a (ev gl cf a env st) env st = some (x, s) := by
  have e : toD (ev gl cf a env st) = some (x, s) := by rw [h]; show (w.toD.map fun x => (x, s)) = _; rw [hw]; rfl
  cases a with
  | v i => cases n
  | _ => exact e
theorem toD_E {a : E} {env : Ev} {st s : Sto} {w : Vl} {x : D} (h : ev gl cf a env st = some (w, s)) (hw : w.toD = some x) : toD (ev gl cf a env st) = some (x, s) := by
  rw [h]; show (w.toD.map fun x => (x, s)) = _; rw [hw]; rfl
theorem bor_sh {i : Nat} {env : Ev} {st : Sto} {x : D} (h : look env i = .sh x) : bor (.v i) (ev gl cf (.v i) env st) env st = some (x, st) := by
  show (match look env i with | .sh x => some (x, st) | .ow x => some (x, st) | .lk x => some (x, st) | _ => none) = _
  rw [h]
theorem bor_ow {i : Nat} {env : Ev} {st : Sto} {x : D} (h : look env i = .ow x) : bor (.v i) (ev gl cf (.v i) env st) env st = some (x, st) := by
  show (match look env i with | .sh x => some (x, st) | .ow x => some (x, st) | .lk x => some (x, st) | _ => none) = _
  rw [h]
theorem ev_sh {i : Nat} {env : Ev} {st : Sto} {x : D} (h : look env i = .sh x) : ev gl cf (.v i) env st = some (.d x, st) := by
  show (match look env i with | .sh x => some (Vl.d x, st) | .rf n => some (Vl.rf n, st) | _ => none) = _
  rw [h]
theorem ev_f1 {f : F1} {a : E} {env : Ev} {st s : Sto} {x : D} {r : Vl} (h : bor a (ev gl cf a env st) env st = some (x, s)) (hf : f1D f x = some r) : ev gl cf (.f1 f a) env st = some (r, s) := by
  show bnd (bor a (ev gl cf a env st) env st) (fun x s => ret (f1D f x) s) = _
  rw [h, bnd_some, hf]; rfl
theorem ev_bin {op : Bop} {a b : E} {env : Ev} {st s s2 : Sto} {x y : D} {r : Vl} (h : bor a (ev gl cf a env st) env st = some (x, s)) (g : bor b (ev gl cf b env s) env s = some (y, s2)) (hf : binD op x y = some r) : ev gl cf (.bin op a b) env st = some (r, s2) := by
  show bnd (bor a (ev gl cf a env st) env st) (fun x s => bnd (bor b (ev gl cf b env s) env s) fun y s' => ret (binD op x y) s') = _
  rw [h, bnd_some, g, bnd_some, hf]; rfl
theorem ev_ix {a b : E} {env : Ev} {st s s2 : Sto} {x y r : D} (h : bor a (ev gl cf a env st) env st = some (x, s)) (g : bor b (ev gl cf b env s) env s = some (y, s2)) (hf : ixD x y = some r) : ev gl cf (.ix a b) env st = some (.d r, s2) := by
  show bnd (bor a (ev gl cf a env st) env st) (fun x s => bnd (bor b (ev gl cf b env s) env s) fun y s' => ret ((ixD x y).map Vl.d) s') = _
  rw [h, bnd_some, g, bnd_some, hf]; rfl
theorem ret_some {α : Type} (a : α) (s : Sto) : ret (some a) s = some (a, s) := rfl
theorem asInt_int (i : Int) : asInt (.int i) = some i := rfl
theorem bind_s {α β : Type} (a : α) (f : α → Option β) : (some a).bind f = f a := rfl
theorem rng_bind {n : Nat} (hn : n ≤ SL) : ((asInt (.int ((n : Nat) : Int))).bind fun n => rg2D 0 n) = some ((List.range n).map fun k => .int ((k : Nat) : Int)) := by
  rw [asInt_int, bind_s]
  exact rg2_nat hn
theorem evi_rng1' {a : E} {env : Ev} {st : Sto} : evi gl cf (.rng1 a) env st = bnd (bor a (ev gl cf a env st) env st) fun x s => ret ((asInt x).bind fun n => rg2D 0 n) s := rfl
theorem evi_rng1 {a : E} {env : Ev} {st s : Sto} {n : Nat} (h : bor a (ev gl cf a env st) env st = some (.int (n : Nat), s)) (hn : n ≤ SL) : evi gl cf (.rng1 a) env st = some ((List.range n).map fun k => .int ((k : Nat) : Int), s) := by
  rw [evi_rng1', h, bnd_some, rng_bind hn, ret_some]
theorem evi_of {a : E} {env : Ev} {st s : Sto} {x : D} {xs : List D} (h : bor a (ev gl cf a env st) env st = some (x, s)) (hw : walkD x = some xs) : evi gl cf (.of a) env st = some (xs, s) := by
  show bnd (bor a (ev gl cf a env st) env st) (fun x s => ret (walkD x) s) = _
  rw [h, bnd_some, hw]; rfl
def zipQ (x y : D) : Option (List D) := (items x).bind fun xs => (items y).map fun ys => zipD xs ys
theorem evi_zip {a b : E} {env : Ev} {st s s2 : Sto} {x y : D} {xs : List D} (h : bor a (ev gl cf a env st) env st = some (x, s)) (g : bor b (ev gl cf b env s) env s = some (y, s2)) (hw : zipQ x y = some xs) : evi gl cf (.zip a b) env st = some (xs, s2) := by
  show bnd (bor a (ev gl cf a env st) env st) (fun x s => bnd (bor b (ev gl cf b env s) env s) fun y s' => ret (zipQ x y) s') = _
  rw [h, bnd_some, g, bnd_some, hw]; rfl
theorem ev_call {f : Nat} {es : Es} {env : Ev} {st s : Sto} {ws : List Vl} {r : Vl × Sto} (h : eva gl cf es env st = some (ws, s)) (g : cf f ws s = some r) : ev gl cf (.call f es) env st = some r := by
  show bnd (eva gl cf es env st) (fun ws s => cf f ws s) = _
  rw [h, bnd_some, g]
theorem eva_nil {env : Ev} {st : Sto} : eva gl cf .nil env st = some ([], st) := rfl
theorem eva_cons {e : E} {es : Es} {env : Ev} {st s s2 : Sto} {w : Vl} {ws : List Vl} (h : ev gl cf e env st = some (w, s)) (g : eva gl cf es env s = some (ws, s2)) : eva gl cf (.cons e es) env st = some (argV w :: ws, s2) := by
  show bnd (ev gl cf e env st) (fun x s => bnd (eva gl cf es env s) fun xs s' => some (argV x :: xs, s')) = _
  rw [h, bnd_some, g, bnd_some]
theorem ev_cmp {op : Cop} {a b : E} {env : Ev} {st s s2 : Sto} {x y : D} {r : Bool} (h : bor a (ev gl cf a env st) env st = some (x, s)) (g : bor b (ev gl cf b env s) env s = some (y, s2)) (hf : cmpD op x y = some r) : ev gl cf (.cmp op a b) env st = some (.d (.bool r), s2) := by
  show bnd (bor a (ev gl cf a env st) env st) (fun x s => bnd (bor b (ev gl cf b env s) env s) fun y s' => ret ((cmpD op x y).map fun k => Vl.d (.bool k)) s') = _
  rw [h, bnd_some, g, bnd_some, hf]; rfl
theorem ev_isi {a : E} {ts : List Ty} {env : Ev} {st s : Sto} {x : D} (h : bor a (ev gl cf a env st) env st = some (x, s)) (n : noDict x = true) : ev gl cf (.isi a ts) env st = some (.d (.bool (ts.any (isTy x))), s) := by
  show bnd (bor a (ev gl cf a env st) env st) (fun x s => if noDict x then some (Vl.d (.bool (ts.any (isTy x))), s) else none) = _
  rw [h, bnd_some, if_pos n]
theorem ev_ite {c a b : E} {env : Ev} {st s : Sto} {x : D} {k : Bool} {r : Option (Vl × Sto)} (h : bor c (ev gl cf c env st) env st = some (x, s)) (hk : truD x = some k) (g : (if k then ev gl cf a env s else ev gl cf b env s) = r) : ev gl cf (.ite c a b) env st = r := by
  show bnd (tru (bor c (ev gl cf c env st) env st)) (fun k s => if k then ev gl cf a env s else ev gl cf b env s) = _
  rw [h]
  show bnd (ret (truD x) s) _ = _
  rw [hk]
  exact g
theorem out_ret {e : E} {env : Ev} {st s : Sto} {w : Vl} (h : ev gl cf e env st = some (w, s)) : out (execs gl cf W (.cons (.ret e) .nil) env st) = some (w, s) := by
  show out (sbnd (match ev gl cf e env st with | some (w, s) => some (Fl.rt w, env, s) | none => none) _) = _
  rw [h]; rfl
end
theorem intsD_map {α : Type} (g : α → Int) : ∀ l : List α, intsD (l.map fun k => .int (g k)) = some (l.map g)
  | [] => rfl
  | x :: l => by
    show (intsD (l.map fun k => .int (g k))).map (g x :: ·) = _
    rw [intsD_map g l]; rfl
theorem boolsD_map {α : Type} (g : α → Bool) : ∀ l : List α, boolsD (l.map fun k => .bool (g k)) = some (l.map g)
  | [] => rfl
  | x :: l => by
    show (boolsD (l.map fun k => .bool (g k))).map (g x :: ·) = _
    rw [boolsD_map g l]; rfl
theorem zipD_map {α : Type} (a b : α → D) : ∀ l : List α, zipD (l.map a) (l.map b) = l.map fun k => .tuple [a k, b k]
  | [] => rfl
  | x :: l => congrArg (_ :: ·) (zipD_map a b l)
theorem atI_nat {xs : List D} {j : Nat} {x : D} (h : xs[j]? = some x) : at? xs (j : Nat) = some x := L2.atI_nat h
theorem eq_int (i j : Int) : cmpD .eq (.int i) (.int j) = some (decide (i = j)) := by
  show (if okD (.int i) && okD (.int j) then some (PySem.PyData.eqv (.int i) (.int j)) else none) = _
  have ok : ∀ k : Int, okD (.int k) = true := fun k => by simp [okD, PySem.PyData.plain, PySem.PyData.depth]
  rw [ok, ok, if_pos (show (true && true) = true from rfl)]
  simp only [PySem.PyData.eqv]
  by_cases e : i = j
  · subst e; simp
  · simp [e]
/-- list or tuple -/
def sq (b : Bool) (xs : List D) : D := if b then .tuple xs else .list xs
end Pi

end
section
set_option Elab.async false
set_option linter.all false
set_option maxRecDepth 100000
set_option maxHeartbeats 4000000
namespace Pi
open PySem
section
variable {gl : Nat → Option D} {cf : Cf} {W : Nat}
theorem ev_int {i : Int} {env : Ev} {st : Sto} : ev gl cf (.int i) env st = some (.d (.int i), st) := rfl
theorem ev_str {i : Str} {env : Ev} {st : Sto} : ev gl cf (.str i) env st = some (.d (.str i), st) := rfl
theorem ev_bl {i : Bool} {env : Ev} {st : Sto} : ev gl cf (.bl i) env st = some (.d (.bool i), st) := rfl
theorem ev_non {env : Ev} {st : Sto} : ev gl cf .non env st = some (.d .none, st) := rfl
theorem ev_neg {a : E} {env : Ev} {st s : Sto} {i : Int} (h : bor a (ev gl cf a env st) env st = some (.int i, s)) : ev gl cf (.neg a) env st = some (.d (.int (-i)), s) := by
  show bnd (bor a (ev gl cf a env st) env st) (fun x s => ret ((asInt x).map fun i => Vl.d (.int (-i))) s) = _
  rw [h]; rfl
theorem ev_f2 {f : F2} {a b : E} {env : Ev} {st s s2 : Sto} {x y : D} {r : Vl} (h : bor a (ev gl cf a env st) env st = some (x, s)) (g : bor b (ev gl cf b env s) env s = some (y, s2)) (hf : f2D f x y = some r) : ev gl cf (.f2 f a b) env st = some (r, s2) := by
  show bnd (bor a (ev gl cf a env st) env st) (fun x s => bnd (bor b (ev gl cf b env s) env s) fun y s' => ret (f2D f x y) s') = _
  rw [h, bnd_some, g, bnd_some, hf]; rfl
theorem ev_bx {i n : Nat} {k : E} {env : Ev} {st s : Sto} {y r : D} {xs : List D} (h : bor k (ev gl cf k env st) env st = some (y, s)) (hl : look env i = .rf n) (hs : s[n]? = some xs) (hi : ixD (.list xs) y = some r) : ev gl cf (.bx i k) env st = some (.d r, s) := by
  show bnd (bor k (ev gl cf k env st) env st) (fun y s => (match look env i with | .rf n => ret ((s[n]?).bind fun xs => (ixD (.list xs) y).map Vl.d) s | _ => none)) = _
  rw [h, bnd_some, hl]
  show ret ((s[n]?).bind fun xs => (ixD (.list xs) y).map Vl.d) s = _
  rw [hs]
  show ret ((ixD (.list xs) y).map Vl.d) s = _
  rw [hi]; rfl
theorem ev_sl {a : E} {lo hi : Oe} {env : Ev} {st s s1 s2 : Sto} {x : D} {l h : Option Int} {r : Vl} (ha : bor a (ev gl cf a env st) env st = some (x, s)) (h1 : evo gl cf lo env s = some (l, s1)) (h2 : evo gl cf hi env s1 = some (h, s2)) (hr : slD x l h = some r) : ev gl cf (.sl a lo hi) env st = some (r, s2) := by
  show bnd (bor a (ev gl cf a env st) env st) (fun x s => bnd (evo gl cf lo env s) fun l s1 => bnd (evo gl cf hi env s1) fun h s2 => ret (slD x l h) s2) = _
  rw [ha, bnd_some, h1, bnd_some, h2, bnd_some, hr]; rfl
theorem evo_no {env : Ev} {st : Sto} : evo gl cf .no env st = some (none, st) := rfl
theorem evo_yes {e : E} {env : Ev} {st s : Sto} {i : Int} (h : bor e (ev gl cf e env st) env st = some (.int i, s)) : evo gl cf (.yes e) env st = some (some i, s) := by
  show bnd (bor e (ev gl cf e env st) env st) (fun x s => ret ((asInt x).map some) s) = _
  rw [h]; rfl
theorem ev_tup {es : Es} {env : Ev} {st s : Sto} {xs : List D} (h : evs gl cf es env st = some (xs, s)) (hl : xs.length ≤ SL) : ev gl cf (.tup es) env st = some (.d (.tuple xs), s) := by
  show bnd (evs gl cf es env st) (fun xs s => if xs.length ≤ SL then some (Vl.d (.tuple xs), s) else none) = _
  rw [h, bnd_some, if_pos hl]
theorem ev_lst {es : Es} {env : Ev} {st s : Sto} {xs : List D} (h : evs gl cf es env st = some (xs, s)) (hl : xs.length ≤ SL) : ev gl cf (.lst es) env st = some (.fr (.list xs), s) := by
  show bnd (evs gl cf es env st) (fun xs s => if xs.length ≤ SL then some (Vl.fr (.list xs), s) else none) = _
  rw [h, bnd_some, if_pos hl]
theorem evs_nil {env : Ev} {st : Sto} : evs gl cf .nil env st = some ([], st) := rfl
theorem evs_cons {e : E} {es : Es} {env : Ev} {st s s2 : Sto} {x : D} {xs : List D} (h : toD (ev gl cf e env st) = some (x, s)) (g : evs gl cf es env s = some (xs, s2)) : evs gl cf (.cons e es) env st = some (x :: xs, s2) := by
  show bnd (toD (ev gl cf e env st)) (fun x s => bnd (evs gl cf es env s) fun xs s' => some (x :: xs, s')) = _
  rw [h, bnd_some, g, bnd_some]
theorem ev_callk {f : Nat} {es ks : Es} {pm : List Nat} {env : Ev} {st s s2 : Sto} {ws zs us : List Vl} {r : Vl × Sto} (h : eva gl cf es env st = some (ws, s)) (h2 : eva gl cf ks env s = some (zs, s2)) (hp : pick (ws ++ zs) pm = some us) (g : cf f us s2 = some r) : ev gl cf (.callk f es ks pm) env st = some r := by
  show bnd (eva gl cf es env st) (fun ws s => bnd (eva gl cf ks env s) fun zs s' => bnd (ret (pick (ws ++ zs) pm) s') fun us s' => cf f us s') = _
  rw [h, bnd_some, h2, bnd_some, hp, ret_some, bnd_some, g]
theorem ev_or1 {a b : E} {env : Ev} {st s : Sto} {w : Vl} {x : D} (h : ev gl cf a env st = some (w, s)) (hw : w.toD = some x) (hk : truD x = some true) : ev gl cf (.or a b) env st = some (w, s) := by
  show bnd (ev gl cf a env st) (fun w s => bnd (ret w.toD s) fun x s => bnd (ret (truD x) s) fun k s => if k then some (w, s) else ev gl cf b env s) = _
  rw [h, bnd_some, hw, ret_some, bnd_some, hk, ret_some, bnd_some, if_pos rfl]
theorem ev_or2 {a b : E} {env : Ev} {st s : Sto} {w : Vl} {x : D} {r : Option (Vl × Sto)} (h : ev gl cf a env st = some (w, s)) (hw : w.toD = some x) (hk : truD x = some false) (g : ev gl cf b env s = r) : ev gl cf (.or a b) env st = r := by
  show bnd (ev gl cf a env st) (fun w s => bnd (ret w.toD s) fun x s => bnd (ret (truD x) s) fun k s => if k then some (w, s) else ev gl cf b env s) = _
  rw [h, bnd_some, hw, ret_some, bnd_some, hk, ret_some, bnd_some, if_neg Bool.false_ne_true]; exact g
theorem ev_andT {a b : E} {env : Ev} {st s : Sto} {x : D} {r : Option (Vl × Sto)} (h : toD (ev gl cf a env st) = some (x, s)) (hk : truD x = some true) (g : ev gl cf b env s = r) : ev gl cf (.and a b) env st = r := by
  show bnd (toD (ev gl cf a env st)) (fun x s => bnd (ret (truD x) s) fun k s => if k then ev gl cf b env s else some (Vl.d x, s)) = _
  rw [h, bnd_some, hk, ret_some, bnd_some, if_pos rfl]
  exact g
theorem ev_not {a : E} {env : Ev} {st s : Sto} {x : D} {k : Bool} (h : bor a (ev gl cf a env st) env st = some (x, s)) (hk : truD x = some k) : ev gl cf (.not a) env st = some (.d (.bool (!k)), s) := by
  show bnd (tru (bor a (ev gl cf a env st) env st)) (fun k s => some (Vl.d (.bool (!k)), s)) = _
  rw [h]
  show bnd (ret (truD x) s) _ = _
  rw [hk]; rfl
theorem tru_E {a : E} {env : Ev} {st s : Sto} {x : D} {k : Bool} (h : bor a (ev gl cf a env st) env st = some (x, s)) (hk : truD x = some k) : tru (bor a (ev gl cf a env st) env st) = some (k, s) := by
  rw [h]
  show ret (truD x) s = _
  rw [hk]; rfl
/-! statements -/
theorem exs_nil {env : Ev} {st : Sto} : execs gl cf W .nil env st = some (.nx, env, st) := rfl
theorem exs_cons {s : S} {ss : Ss} {env e1 : Ev} {st s1 : Sto} {r : SR} (h : exec gl cf W s env st = some (.nx, e1, s1)) (g : execs gl cf W ss e1 s1 = r) : execs gl cf W (.cons s ss) env st = r := by
  show sbnd (exec gl cf W s env st) _ = _
  rw [h]; exact g
theorem exs_rt {s : S} {ss : Ss} {env e1 : Ev} {st s1 : Sto} {w : Vl} (h : exec gl cf W s env st = some (.rt w, e1, s1)) : execs gl cf W (.cons s ss) env st = some (.rt w, e1, s1) := by
  show sbnd (exec gl cf W s env st) _ = _
  rw [h]; rfl
theorem ex_ite {c : E} {a b : Ss} {env : Ev} {st s : Sto} {k : Bool} {r : SR} (h : tru (bor c (ev gl cf c env st) env st) = some (k, s)) (g : (if k then execs gl cf W a env s else execs gl cf W b env s) = r) : exec gl cf W (.ite c a b) env st = r := by
  show (match tru (bor c (ev gl cf c env st) env st) with | some (true, s) => execs gl cf W a env s | some (false, s) => execs gl cf W b env s | none => none) = _
  rw [h]
  cases k <;> exact g
theorem ex_asg {t : Tg} {e : E} {env e1 : Ev} {st s : Sto} {x : D} (h : toD (ev gl cf e env st) = some (x, s)) (hb : bindT t x env = some e1) : exec gl cf W (.asg t e) env st = some (.nx, e1, s) := by
  show (match toD (ev gl cf e env st) with | some (x, s) => (bindT t x env).map fun e1 => (Fl.nx, e1, s) | none => none) = _
  rw [h]
  show (bindT t x env).map _ = _
  rw [hb]; rfl
theorem ex_own {i : Nat} {e : E} {env e1 : Ev} {st s : Sto} {x : D} (h : ev gl cf e env st = some (.fr x, s)) (hb : ownAt env i x = some e1) : exec gl cf W (.own i e) env st = some (.nx, e1, s) := by
  show (match ev gl cf e env st with | some (.fr x, s) => (ownAt env i x).map fun e1 => (Fl.nx, e1, s) | _ => none) = _
  rw [h]
  show (ownAt env i x).map _ = _
  rw [hb]; rfl
theorem ex_ret {e : E} {env : Ev} {st s : Sto} {w : Vl} (h : ev gl cf e env st = some (w, s)) : exec gl cf W (.ret e) env st = some (.rt w, env, s) := by
  show (match ev gl cf e env st with | some (w, s) => some (Fl.rt w, env, s) | none => none) = _
  rw [h]
theorem ex_reto {i : Nat} {env : Ev} {st : Sto} {x : D} (h : look env i = .ow x) : exec gl cf W (.reto i) env st = some (.rt (.fr x), env, st) := by
  show (match look env i with | .ow x => some (Fl.rt (.fr x), env, st) | _ => none) = _
  rw [h]
theorem ex_rbox {es : Es} {env : Ev} {st s : Sto} {xs : List D} (h : evs gl cf es env st = some (xs, s)) (hl : xs.length ≤ SL) : exec gl cf W (.rbox es) env st = some (.rt (.rf s.length), env, s ++ [xs]) := by
  show (match evs gl cf es env st with | some (xs, s) => if xs.length ≤ SL then some (Fl.rt (.rf s.length), env, s ++ [xs]) else none | none => none) = _
  rw [h]
  show (if xs.length ≤ SL then _ else _) = _
  rw [if_pos hl]
theorem ex_app {i : Nat} {e : E} {env : Ev} {st s : Sto} {y : D} {xs : List D} (h : toD (ev gl cf e env st) = some (y, s)) (hl : look env i = .ow (.list xs)) (hn : xs.length < SL) : exec gl cf W (.app i e) env st = some (.nx, env.set i (.ow (.list (xs ++ [y]))), s) := by
  show (match toD (ev gl cf e env st) with | some (y, s) => (match look env i with | .ow (.list xs) => if xs.length < SL then some (Fl.nx, env.set i (.ow (.list (xs ++ [y]))), s) else none | _ => none) | none => none) = _
  rw [h]
  show (match look env i with | .ow (.list xs) => if xs.length < SL then some (Fl.nx, env.set i (.ow (.list (xs ++ [y]))), s) else none | _ => none) = _
  rw [hl]
  show (if xs.length < SL then _ else _) = _
  rw [if_pos hn]
theorem ex_stixO {i : Nat} {k e : E} {env : Ev} {st s s1 : Sto} {y kx : D} {xs ys : List D} (h : toD (ev gl cf e env st) = some (y, s)) (hk : bor k (ev gl cf k env s) env s = some (kx, s1)) (hl : look env i = .ow (.list xs)) (hs : setNth xs kx y = some ys) :
    exec gl cf W (.stix i k e) env st = some (.nx, env.set i (.ow (.list ys)), s1) := by
  show (match toD (ev gl cf e env st) with
    | some (y, s) => (match bor k (ev gl cf k env s) env s with
      | some (kx, s1) => (match look env i with
        | .ow (.list xs) => (setNth xs kx y).bind fun ys => some (Fl.nx, env.set i (.ow (.list ys)), s1)
        | .ow (.dict ds) => if (keyD kx && decide (ds.length < SL)) = true then (dents kx ds).map fun es => (Fl.nx, env.set i (Slot.ow (.dict (dput kx y es))), s1) else none
        | .rf n => (s1[n]?).bind fun xs => (setNth xs kx y).bind fun ys => some (Fl.nx, env, s1.set n ys)
        | _ => none)
      | none => none)
    | none => none) = _
  rw [h]
  show (match bor k (ev gl cf k env s) env s with
      | some (kx, s1) => (match look env i with
        | .ow (.list xs) => (setNth xs kx y).bind fun ys => some (Fl.nx, env.set i (.ow (.list ys)), s1)
        | .ow (.dict ds) => if (keyD kx && decide (ds.length < SL)) = true then (dents kx ds).map fun es => (Fl.nx, env.set i (Slot.ow (.dict (dput kx y es))), s1) else none
        | .rf n => (s1[n]?).bind fun xs => (setNth xs kx y).bind fun ys => some (Fl.nx, env, s1.set n ys)
        | _ => none)
      | none => none) = _
  rw [hk]
  show (match look env i with
        | .ow (.list xs) => (setNth xs kx y).bind fun ys => some (Fl.nx, env.set i (.ow (.list ys)), s1)
        | .ow (.dict ds) => if (keyD kx && decide (ds.length < SL)) = true then (dents kx ds).map fun es => (Fl.nx, env.set i (Slot.ow (.dict (dput kx y es))), s1) else none
        | .rf n => (s1[n]?).bind fun xs => (setNth xs kx y).bind fun ys => some (Fl.nx, env, s1.set n ys)
        | _ => none) = _
  rw [hl]
  show (setNth xs kx y).bind _ = _
  rw [hs]; rfl
theorem ex_stixR {i n : Nat} {k e : E} {env : Ev} {st s s1 : Sto} {y kx : D} {xs ys : List D} (h : toD (ev gl cf e env st) = some (y, s)) (hk : bor k (ev gl cf k env s) env s = some (kx, s1)) (hl : look env i = .rf n) (hx : s1[n]? = some xs) (hs : setNth xs kx y = some ys) :
    exec gl cf W (.stix i k e) env st = some (.nx, env, s1.set n ys) := by
  show (match toD (ev gl cf e env st) with
    | some (y, s) => (match bor k (ev gl cf k env s) env s with
      | some (kx, s1) => (match look env i with
        | .ow (.list xs) => (setNth xs kx y).bind fun ys => some (Fl.nx, env.set i (.ow (.list ys)), s1)
        | .ow (.dict ds) => if (keyD kx && decide (ds.length < SL)) = true then (dents kx ds).map fun es => (Fl.nx, env.set i (Slot.ow (.dict (dput kx y es))), s1) else none
        | .rf n => (s1[n]?).bind fun xs => (setNth xs kx y).bind fun ys => some (Fl.nx, env, s1.set n ys)
        | _ => none)
      | none => none)
    | none => none) = _
  rw [h]
  show (match bor k (ev gl cf k env s) env s with
      | some (kx, s1) => (match look env i with
        | .ow (.list xs) => (setNth xs kx y).bind fun ys => some (Fl.nx, env.set i (.ow (.list ys)), s1)
        | .ow (.dict ds) => if (keyD kx && decide (ds.length < SL)) = true then (dents kx ds).map fun es => (Fl.nx, env.set i (Slot.ow (.dict (dput kx y es))), s1) else none
        | .rf n => (s1[n]?).bind fun xs => (setNth xs kx y).bind fun ys => some (Fl.nx, env, s1.set n ys)
        | _ => none)
      | none => none) = _
  rw [hk]
  show (match look env i with
        | .ow (.list xs) => (setNth xs kx y).bind fun ys => some (Fl.nx, env.set i (.ow (.list ys)), s1)
        | .ow (.dict ds) => if (keyD kx && decide (ds.length < SL)) = true then (dents kx ds).map fun es => (Fl.nx, env.set i (Slot.ow (.dict (dput kx y es))), s1) else none
        | .rf n => (s1[n]?).bind fun xs => (setNth xs kx y).bind fun ys => some (Fl.nx, env, s1.set n ys)
        | _ => none) = _
  rw [hl]
  show (s1[n]?).bind _ = _
  rw [hx]
  show (setNth xs kx y).bind _ = _
  rw [hs]; rfl
end
/-! whole numbers -/
theorem ok_int (k : Int) : okD (.int k) = true := by simp [okD, PySem.PyData.plain, PySem.PyData.depth]
theorem alike_int (i j : Int) : PySem.W.alike (.int i) (.int j) = true := by simp [PySem.W.alike]
theorem gt_int (i j : Int) : cmpD .gt (.int i) (.int j) = some (decide (j < i)) := by
  show (if okD (.int i) && okD (.int j) && PySem.W.alike (.int i) (.int j) && !isNone (.int i) then some (PySem.W.dataLt (.int j) (.int i)) else none) = _
  rw [ok_int, ok_int, PySem.W.dataLt_int, alike_int]; rfl
theorem lt_int (i j : Int) : cmpD .lt (.int i) (.int j) = some (decide (i < j)) := by
  show (if okD (.int i) && okD (.int j) && PySem.W.alike (.int i) (.int j) && !isNone (.int i) then some (PySem.W.dataLt (.int i) (.int j)) else none) = _
  rw [ok_int, ok_int, PySem.W.dataLt_int, alike_int]; rfl
theorem ge_int (i j : Int) : cmpD .ge (.int i) (.int j) = some (decide (j ≤ i)) := by
  show (if okD (.int i) && okD (.int j) && PySem.W.alike (.int i) (.int j) && !isNone (.int i) then some (!PySem.W.dataLt (.int i) (.int j)) else none) = _
  rw [ok_int, ok_int, PySem.W.dataLt_int, alike_int]
  show some (!decide (i < j)) = _
  by_cases h : i < j
  · rw [decide_eq_true h, decide_eq_false (by omega)]; rfl
  · rw [decide_eq_false h, decide_eq_true (by omega)]; rfl
theorem le_int (i j : Int) : cmpD .le (.int i) (.int j) = some (decide (i ≤ j)) := by
  show (if okD (.int i) && okD (.int j) && PySem.W.alike (.int i) (.int j) && !isNone (.int i) then some (!PySem.W.dataLt (.int j) (.int i)) else none) = _
  rw [ok_int, ok_int, PySem.W.dataLt_int, alike_int]
  show some (!decide (j < i)) = _
  by_cases h : j < i
  · rw [decide_eq_true h, decide_eq_false (by omega)]; rfl
  · rw [decide_eq_false h, decide_eq_true (by omega)]; rfl
def Sml (i : Int) : Prop := -(2 ^ 64) < i ∧ i < 2 ^ 64
theorem mulL {i j : Int} (h : Sml i) : binD .mul (.int i) (.int j) = some (.d (.int (i * j))) := by
  show (if decide ((-(2 ^ 64) < i ∧ i < 2 ^ 64) ∨ (-(2 ^ 64) < j ∧ j < 2 ^ 64) ∨ i.natAbs.log2 + j.natAbs.log2 < 1000000) = true then some (Vl.d (.int (i * j))) else none) = _
  rw [if_pos (decide_eq_true (.inl h))]
theorem mulR {i j : Int} (h : Sml j) : binD .mul (.int i) (.int j) = some (.d (.int (i * j))) := by
  show (if decide ((-(2 ^ 64) < i ∧ i < 2 ^ 64) ∨ (-(2 ^ 64) < j ∧ j < 2 ^ 64) ∨ i.natAbs.log2 + j.natAbs.log2 < 1000000) = true then some (Vl.d (.int (i * j))) else none) = _
  rw [if_pos (decide_eq_true (.inr (.inl h)))]
theorem addI (i j : Int) : binD .add (.int i) (.int j) = some (.d (.int (i + j))) := rfl
theorem subI (i j : Int) : binD .sub (.int i) (.int j) = some (.d (.int (i - j))) := rfl
theorem modP {i j : Int} (h : 0 < j) : binD .mod (.int i) (.int j) = some (.d (.int (i % j))) := by
  show (modD i j).map _ = _
  unfold modD
  rw [if_pos h]; rfl
theorem fdivP {i j : Int} (h : 0 < j) (hl : j.natAbs.log2 < 9000) : binD .fdiv (.int i) (.int j) = some (.d (.int (i / j))) := by
  show (fdivD i j).map _ = _
  unfold fdivD
  rw [if_pos h, if_pos hl]; rfl
theorem log2_small {n : Nat} (h : n < 2 ^ 64) : n.log2 < 9000 := by
  by_cases z : n = 0
  · subst z; decide
  · have := (Nat.log2_lt z).mpr h
    omega
theorem set_get {st : Sto} {n : Nat} {xs : List D} (h : st[n]? = some xs) (ys : List D) : (st.set n ys)[n]? = some ys := by
  rw [List.getElem?_set]
  have := (List.getElem?_eq_some_iff.mp h).1
  simp [this]
/-! ### the boxes of draws -/
theorem scal_set {st : Sto} (h : scalS st = true) (n : Nat) {xs : List D} (hx : xs.all scalD = true) : scalS (st.set n xs) = true := by
  unfold scalS at h ⊢
  rw [List.all_eq_true] at h ⊢
  intro y hy
  rcases List.mem_or_eq_of_mem_set hy with hy | rfl
  · exact h y hy
  · exact hx
theorem scal_app {st : Sto} (h : scalS st = true) {xs : List D} (hx : xs.all scalD = true) : scalS (st ++ [xs]) = true := by
  unfold scalS at h ⊢
  rw [List.all_append, h, List.all_cons, hx]; rfl
def BoxOk (q : Nat) (st : Sto) (n : Nat) : Prop := ∃ a b c : Int, st[n]? = some [.int a, .int b, .int c] ∧ 0 ≤ c ∧ c ≤ q ∧ scalS st = true
theorem BoxOk.scal {q : Nat} {st : Sto} {n : Nat} (h : BoxOk q st n) : scalS st = true := by
  obtain ⟨_, _, _, _, _, _, h⟩ := h
  exact h
theorem BoxOk.mono {q q' : Nat} {st : Sto} {n : Nat} (h : BoxOk q st n) (hq : q ≤ q') : BoxOk q' st n := by
  obtain ⟨a, b, c, h1, h2, h3, h4⟩ := h
  exact ⟨a, b, c, h1, h2, by omega, h4⟩
end Pi

end
section
set_option Elab.async false
set_option linter.all false
set_option maxRecDepth 100000
set_option maxHeartbeats 4000000
namespace Pi
open PySem
/-- one list of statements behind another -/
def app : Ss → Ss → Ss
  | .nil, b => b
  | .cons s a, b => .cons s (app a b)
theorem sbnd_assoc (r : SR) (k l : Ev → Sto → SR) : sbnd (sbnd r k) l = sbnd r fun e s => sbnd (k e s) l := by
  cases r with
  | none => rfl
  | some p =>
    obtain ⟨f, e, s⟩ := p
    cases f <;> rfl
section
variable {gl : Nat → Option D} {cf : Cf} {W : Nat}
theorem execs_app : ∀ (a b : Ss) (env : Ev) (st : Sto), execs gl cf W (app a b) env st = sbnd (execs gl cf W a env st) fun e s => execs gl cf W b e s
  | .nil, b, env, st => rfl
  | .cons s a, b, env, st => by
    show sbnd (exec gl cf W s env st) (fun e1 s1 => execs gl cf W (app a b) e1 s1) = sbnd (sbnd (exec gl cf W s env st) fun e1 s1 => execs gl cf W a e1 s1) _
    rw [sbnd_assoc]
    congr 1
    funext e1 s1
    exact execs_app a b e1 s1
/-- a branch -/
theorem exs_ite {c : E} {a b ss : Ss} {env : Ev} {st s : Sto} {k : Bool} {r : SR} (h : tru (bor c (ev gl cf c env st) env st) = some (k, s)) (g : execs gl cf W (app (if k then a else b) ss) env s = r) : execs gl cf W (.cons (.ite c a b) ss) env st = r := by
  show sbnd (exec gl cf W (.ite c a b) env st) (fun e1 s1 => execs gl cf W ss e1 s1) = r
  have e : exec gl cf W (.ite c a b) env st = execs gl cf W (if k then a else b) env s := ex_ite h (by cases k <;> rfl)
  rw [e, ← execs_app]
  exact g
theorem exs_iteT {c : E} {a b ss : Ss} {env : Ev} {st s : Sto} {r : SR} (h : tru (bor c (ev gl cf c env st) env st) = some (true, s)) (g : execs gl cf W (app a ss) env s = r) : execs gl cf W (.cons (.ite c a b) ss) env st = r := exs_ite h g
theorem exs_iteF {c : E} {a b ss : Ss} {env : Ev} {st s : Sto} {r : SR} (h : tru (bor c (ev gl cf c env st) env st) = some (false, s)) (g : execs gl cf W (app b ss) env s = r) : execs gl cf W (.cons (.ite c a b) ss) env st = r := exs_ite h g
/-! ### what leaves -/
theorem o_cons {s : S} {ss : Ss} {env e1 : Ev} {st s1 : Sto} {r : Option (Vl × Sto)} (h : exec gl cf W s env st = some (.nx, e1, s1)) (g : out (execs gl cf W ss e1 s1) = r) : out (execs gl cf W (.cons s ss) env st) = r := by
  rw [exs_cons h rfl]; exact g
theorem o_asg {t : Tg} {e : E} {ss : Ss} {env e1 : Ev} {st s1 : Sto} {x : D} {r : Option (Vl × Sto)} (h : toD (ev gl cf e env st) = some (x, s1)) (hb : bindT t x env = some e1) (g : out (execs gl cf W ss e1 s1) = r) : out (execs gl cf W (.cons (.asg t e) ss) env st) = r := o_cons (ex_asg h hb) g
theorem ex_abox {i n : Nat} {e : E} {env : Ev} {st s : Sto} (h : ev gl cf e env st = some (.rf n, s)) (hi : i < env.length) : exec gl cf W (.abox i e) env st = some (.nx, env.set i (.rf n), s) := by
  show (match ev gl cf e env st with | some (.rf n, s) => if i < env.length then some (Fl.nx, env.set i (.rf n), s) else none | _ => none) = _
  rw [h]
  show (if i < env.length then some (Fl.nx, env.set i (Slot.rf n), s) else none) = _
  rw [if_pos hi]
theorem o_own {i : Nat} {e : E} {ss : Ss} {env e1 : Ev} {st s1 : Sto} {x : D} {r : Option (Vl × Sto)} (h : ev gl cf e env st = some (.fr x, s1)) (hb : ownAt env i x = some e1) (g : out (execs gl cf W ss e1 s1) = r) : out (execs gl cf W (.cons (.own i e) ss) env st) = r := o_cons (ex_own h hb) g
theorem o_ite {c : E} {a b ss : Ss} {env : Ev} {st s : Sto} {k : Bool} {r : Option (Vl × Sto)} (h : tru (bor c (ev gl cf c env st) env st) = some (k, s)) (g : out (execs gl cf W (app (if k then a else b) ss) env s) = r) : out (execs gl cf W (.cons (.ite c a b) ss) env st) = r := by
  rw [exs_ite h rfl]; exact g
theorem o_iteT {c : E} {a b ss : Ss} {env : Ev} {st s : Sto} {r : Option (Vl × Sto)} (h : tru (bor c (ev gl cf c env st) env st) = some (true, s)) (g : out (execs gl cf W (app a ss) env s) = r) : out (execs gl cf W (.cons (.ite c a b) ss) env st) = r := o_ite h g
theorem o_iteF {c : E} {a b ss : Ss} {env : Ev} {st s : Sto} {r : Option (Vl × Sto)} (h : tru (bor c (ev gl cf c env st) env st) = some (false, s)) (g : out (execs gl cf W (app b ss) env s) = r) : out (execs gl cf W (.cons (.ite c a b) ss) env st) = r := o_ite h g
theorem o_ret {e : E} {ss : Ss} {env : Ev} {st : Sto} {r : Vl × Sto} (h : ev gl cf e env st = some r) : out (execs gl cf W (.cons (.ret e) ss) env st) = some r := by
  obtain ⟨w, s⟩ := r
  rw [exs_rt (ex_ret h)]; rfl
theorem o_reto {i : Nat} {ss : Ss} {env : Ev} {st : Sto} {x : D} (h : look env i = .ow x) : out (execs gl cf W (.cons (.reto i) ss) env st) = some (.fr x, st) := by
  rw [exs_rt (ex_reto h)]; rfl
theorem o_rbox {es : Es} {ss : Ss} {env : Ev} {st s : Sto} {xs : List D} (h : evs gl cf es env st = some (xs, s)) (hl : xs.length ≤ SL) : out (execs gl cf W (.cons (.rbox es) ss) env st) = some (.rf s.length, s ++ [xs]) := by
  rw [exs_rt (ex_rbox h hl)]; rfl
theorem o_stixR {i n : Nat} {k e : E} {ss : Ss} {env : Ev} {st s s1 : Sto} {y kx : D} {xs ys : List D} {r : Option (Vl × Sto)} (h : toD (ev gl cf e env st) = some (y, s)) (hk : bor k (ev gl cf k env s) env s = some (kx, s1)) (hl : look env i = .rf n) (hx : s1[n]? = some xs) (hs : setNth xs kx y = some ys)
    (g : out (execs gl cf W ss env (s1.set n ys)) = r) : out (execs gl cf W (.cons (.stix i k e) ss) env st) = r := o_cons (ex_stixR h hk hl hx hs) g
theorem o_stixO {i : Nat} {k e : E} {ss : Ss} {env : Ev} {st s s1 : Sto} {y kx : D} {xs ys : List D} {r : Option (Vl × Sto)} (h : toD (ev gl cf e env st) = some (y, s)) (hk : bor k (ev gl cf k env s) env s = some (kx, s1)) (hl : look env i = .ow (.list xs)) (hs : setNth xs kx y = some ys)
    (g : out (execs gl cf W ss (env.set i (.ow (.list ys))) s1) = r) : out (execs gl cf W (.cons (.stix i k e) ss) env st) = r := o_cons (ex_stixO h hk hl hs) g
theorem o_app {i : Nat} {e : E} {ss : Ss} {env : Ev} {st s : Sto} {y : D} {xs : List D} {r : Option (Vl × Sto)} (h : toD (ev gl cf e env st) = some (y, s)) (hl : look env i = .ow (.list xs)) (hn : xs.length < SL) (g : out (execs gl cf W ss (env.set i (.ow (.list (xs ++ [y])))) s) = r) : out (execs gl cf W (.cons (.app i e) ss) env st) = r := o_cons (ex_app h hl hn) g
/-! ### loops with an invariant -/
/-- an invariant over what was walked; the turns may return (R) or go on -/
theorem forL_inv {bd : D → Ev → Option Ev} {body : Ev → Sto → SR} {ys : List D} (I : List D → Ev → Sto → Prop)
    (h : ∀ pre x post env st, ys = pre ++ x :: post → I pre env st → ∃ e1 e2 s2, bd x env = some e1 ∧ (body e1 st = some (.nx, e2, s2) ∨ body e1 st = some (.ct, e2, s2)) ∧ I (pre ++ [x]) e2 s2) :
    ∀ (xs pre : List D) (env : Ev) (st : Sto), ys = pre ++ xs → I pre env st → ∃ e2 s2, forL bd body xs env st = some (.nx, e2, s2) ∧ I ys e2 s2
  | [], pre, env, st, e, hi => ⟨env, st, rfl, by rw [e, List.append_nil]; exact hi⟩
  | x :: xs, pre, env, st, e, hi => by
    obtain ⟨e1, e2, s2, h1, h2, h3⟩ := h pre x xs env st e hi
    obtain ⟨e3, s3, h4, h5⟩ := forL_inv I h xs (pre ++ [x]) e2 s2 (by rw [e]; simp) h3
    refine ⟨e3, s3, ?_, h5⟩
    unfold forL
    simp only [h1]
    rcases h2 with h2 | h2 <;> simp only [h2] <;> exact h4
theorem ex_for {t : Tg} {it : It} {b : Ss} {env e2 e3 : Ev} {st s s2 : Sto} {xs : List D} (hi : evi gl cf it (hideB (brw it) (lock (lockOf it env) env)) st = some (xs, s)) (hf : forL (bindT t) (fun e1 s1 => execs gl cf W b e1 s1) xs (lock (lockOf it env) env) s = some (.nx, e2, s2))
    (hu : unlock (lockOf it env) (some (.nx, e2, s2)) = some (.nx, e3, s2)) : exec gl cf W (.for' t it b) env st = some (.nx, e3, s2) := by
  show (match evi gl cf it (hideB (brw it) (lock (lockOf it env) env)) st with
    | some (xs, s) => unlock (lockOf it env) (forL (bindT t) (fun e1 s1 => execs gl cf W b e1 s1) xs (lock (lockOf it env) env) s)
    | none => none) = _
  rw [hi]
  show unlock _ (forL _ _ _ _ _) = _
  rw [hf, hu]
end
end Pi

end
section
set_option Elab.async false
set_option linter.all false
set_option maxRecDepth 100000
set_option maxHeartbeats 4000000
namespace Pi
open PySem
local macro_rules | `(tactic| walk_at "po") => `(tactic| first
  | exact addI _ _ | exact subI _ _
  | exact Pi.gt_int _ _ | exact Pi.lt_int _ _ | exact Pi.ge_int _ _ | exact Pi.le_int _ _ | exact eq_int _ _
  | exact mulR ⟨by omega, by omega⟩ | exact mulL ⟨by omega, by omega⟩ | exact modP (by omega) | exact fdivP (by omega) (by first | decide +kernel | exact log2_small (by omega))
  | exact rfl)
local macro_rules | `(tactic| walk_at "pe") => `(tactic| repeat' (first
  | exact bor_sh rfl | exact bor_ow rfl | exact ev_sh rfl | exact ev_int | exact ev_str | exact ev_bl | exact ev_non | exact evs_nil | exact eva_nil
  | (apply bor_E rfl)
  | (apply ev_bin) | (apply ev_f1) | (apply ev_f2)
  | (apply ev_ix) | (apply ev_cmp) | (apply ev_neg)
  | (apply ev_bx)
  | (apply toD_E)
  | (apply evs_cons) | (apply eva_cons)
  | assumption | walk_at "po"))
/-! ### the cells that a law makes of its script -/
def bCells : Ss := (.cons (.own 2 (.or (.f1 .list (.sl (.v 0) .no (.yes (.v 1)))) (.lst (.cons (.int 0) .nil)))) (.cons (.for' (.t (.cons (.n 3) (.cons (.n 4) .nil))) (.enm (.sl (.v 0) (.yes (.v 1)) (.yes (.int 63)))) (.cons (.asg (.n 5) (.bin .mod (.f1 .int (.v 3)) (.v 1))) (.cons (.stix 2 (.v 5) (.bin .add (.ix (.v 2) (.v 5)) (.bin .mul (.v 4) (.bin .add (.v 3) (.int 2))))) .nil))) (.cons (.reto 2) .nil)))
section
variable {gl : Nat → Option D} {cf : Cf} {W : Nat}
theorem evi_enm {a : E} {env : Ev} {st s : Sto} {xs : List D} (h : bor a (ev gl cf a env st) env st = some (.list xs, s)) : evi gl cf (.enm a) env st = some (enumD 0 xs, s) := by
  show bnd (bor a (ev gl cf a env st) env st) (fun x s => ret ((items x).map (enumD 0)) s) = _
  rw [h]; rfl
theorem enumD_mem : ∀ (l : List Int) (i : Nat) (x : D), x ∈ enumD i (l.map .int) → ∃ (j : Nat) (y : Int), j < i + l.length ∧ x = .tuple [.int (j : Nat), .int y]
  | [], _, _, h => by cases h
  | a :: l, i, x, h => by
    rw [List.map_cons] at h
    unfold enumD at h
    rcases List.mem_cons.mp h with rfl | h
    · exact ⟨i, a, by simp, rfl⟩
    · obtain ⟨j, y, h1, h2⟩ := enumD_mem l (i + 1) x h
      exact ⟨j, y, by rw [List.length_cons]; omega, h2⟩
theorem ixN_nat' {n j : Nat} (hj : j < n) : L2.ixN n (j : Int) = some j := by
  unfold L2.ixN
  rw [if_pos (by omega), if_pos (by omega)]
  simp
theorem set_ints (cs : List Int) (m : Nat) (v : Int) (h : m < cs.length) : setNth (cs.map .int) (.int (m : Nat)) (.int v) = some ((cs.set m v).map .int) := by
  show (L2.ixN (cs.map PyData.int).length (m : Nat)).map (fun j => (cs.map PyData.int).set j (.int v)) = _
  rw [List.length_map, ixN_nat' h]
  simp
theorem cells_body (ns : List Int) (t : Nat) (ht : 0 < t) (ht2 : t ≤ 63) (st : Sto) : ∃ cs : List Int, 0 < cs.length ∧ cs.length ≤ t ∧
    out (execs gl cf W bCells [.sh (.list (ns.map .int)), .sh (.int (t : Nat)), .no, .no, .no, .no] st) = some (.fr (.list (cs.map .int)), st) := by
  have hcut : ∀ lo hi, cutD (ns.map PyData.int) lo hi = ((ns.drop (HT.sIx ns.length 0 lo)).take (HT.sIx ns.length ns.length hi - HT.sIx ns.length 0 lo)).map .int := fun lo hi => by
    unfold cutD
    rw [List.length_map, ← List.map_drop, ← List.map_take]
  have hl : bor (.sl (.v 0) .no (.yes (.v 1))) (ev gl cf (.sl (.v 0) .no (.yes (.v 1))) [.sh (.list (ns.map .int)), .sh (.int (t : Nat)), .no, .no, .no, .no] st) [.sh (.list (ns.map .int)), .sh (.int (t : Nat)), .no, .no, .no, .no] st = some (.list ((ns.take t).map .int), st) := by
    refine bor_E rfl (ev_sl (x := .list (ns.map .int)) (bor_sh rfl) evo_no (evo_yes (i := (t : Nat)) (bor_sh rfl)) (r := .fr (.list ((ns.take t).map .int))) ?_) rfl
    show some (Vl.fr (.list (cutD (ns.map PyData.int) none (some (t : Nat))))) = _
    rw [hcut, HT.sIx_none, HT.sIx_nat, List.drop_zero, Nat.sub_zero, ← List.take_eq_take_min]
  have hown : ∃ cs : List Int, 0 < cs.length ∧ cs.length ≤ t ∧ (t < ns.length → cs.length = t) ∧ ev gl cf (.or (.f1 .list (.sl (.v 0) .no (.yes (.v 1)))) (.lst (.cons (.int 0) .nil))) [.sh (.list (ns.map .int)), .sh (.int (t : Nat)), .no, .no, .no, .no] st = some (.fr (.list (cs.map .int)), st) := by
    cases ns with
    | nil => exact ⟨[0], by decide, ht, fun h => by simp at h, ev_or2 (w := .fr (.list [])) (ev_f1 (x := .list []) (by rw [hl]; simp) rfl) rfl rfl rfl⟩
    | cons a r =>
      refine ⟨(a :: r).take t, by rw [List.length_take, List.length_cons]; omega, by rw [List.length_take]; omega, fun h => by rw [List.length_take]; omega, ev_or1 (x := .list (((a :: r).take t).map .int)) (ev_f1 hl rfl) rfl ?_⟩
      obtain ⟨u, rfl⟩ : ∃ u, t = u + 1 := ⟨t - 1, by omega⟩
      rfl
  obtain ⟨cs, h1, h2, h3, h4⟩ := hown
  have hs : ∀ x : D, evi gl cf (.enm (.sl (.v 0) (.yes (.v 1)) (.yes (.int 63)))) [.sh (.list (ns.map .int)), .sh (.int (t : Nat)), .ow x, .no, .no, .no] st = some (enumD 0 (((ns.drop t).take (63 - t)).map .int), st) := fun x => by
    refine evi_enm (bor_E (w := .fr (.list (((ns.drop t).take (63 - t)).map .int))) rfl (ev_sl (x := .list (ns.map .int)) (bor_sh rfl) (evo_yes (i := (t : Nat)) (bor_sh rfl)) (evo_yes (i := (63 : Nat)) (bor_E rfl rfl rfl)) ?_) rfl)
    show some (Vl.fr (.list (cutD (ns.map PyData.int) (some (t : Nat)) (some ((63 : Nat) : Int))))) = _
    rw [hcut, HT.sIx_nat, HT.sIx_nat]
    congr 4
    by_cases h : t ≤ ns.length
    · rw [Nat.min_eq_left h]
      by_cases h5 : 63 ≤ ns.length
      · rw [Nat.min_eq_left h5]
      · rw [Nat.min_eq_right (by omega), List.take_of_length_le (by rw [List.length_drop]; omega), List.take_of_length_le (by rw [List.length_drop]; omega)]
    · rw [List.drop_of_length_le (by omega), List.drop_of_length_le (by omega), List.take_nil, List.take_nil]
  refine ?_
  generalize hys : (ns.drop t).take (63 - t) = ys at hs
  have hyl : ys.length ≤ 63 := by rw [← hys, List.length_take]; omega
  have hcs : ys ≠ [] → cs.length = t := fun h => h3 (by
    by_cases q : t < ns.length
    · exact q
    · exact absurd (by rw [← hys, List.drop_of_length_le (by omega), List.take_nil]) h)
  obtain ⟨e2, s2, hf, cs2, a2, b2, c2, hl2, he2, hs2⟩ := forL_inv (bd := bindT (.t (.cons (.n 3) (.cons (.n 4) .nil)))) (body := fun e1 s1 => execs gl cf W (.cons (.asg (.n 5) (.bin .mod (.f1 .int (.v 3)) (.v 1))) (.cons (.stix 2 (.v 5) (.bin .add (.ix (.v 2) (.v 5)) (.bin .mul (.v 4) (.bin .add (.v 3) (.int 2))))) .nil)) e1 s1)
    (fun _ env s => ∃ (cs' : List Int) (a b c : Slot), cs'.length = cs.length ∧ env = [.sh (.list (ns.map .int)), .sh (.int (t : Nat)), .ow (.list (cs'.map .int)), a, b, c] ∧ s = st)
    (ys := enumD 0 (ys.map .int)) (fun pre x post env s e ⟨cs', a, b, c, hl', he, hst⟩ => by
      subst he hst
      obtain ⟨j, y, hj, hx⟩ := enumD_mem ys 0 x (by rw [e]; simp)
      subst hx
      have hn : ys ≠ [] := fun z => by subst z; simp at hj
      have hlt := hcs hn
      have hm : j % t < cs'.length := by rw [hl', hlt]; exact Nat.mod_lt _ ht
      have hj2 : ((j : Nat) : Int) < 100 := by omega
      have hj0 : (0 : Int) ≤ ((j : Nat) : Int) := by omega
      have ha : ixD (.list (cs'.map .int)) (.int ((j % t : Nat) : Int)) = some (.int cs'[j % t]) := atI_nat (by rw [List.getElem?_map, List.getElem?_eq_getElem hm]; rfl)
      have ha2 : ixD (.list (cs'.map .int)) (.int ((j : Nat) : Int)) = ixD (.list (cs'.map .int)) (.int ((j : Nat) : Int)) := rfl
      have hmd : binD .mod (.int (j : Nat)) (.int (t : Nat)) = some (.d (.int ((j % t : Nat) : Int))) := by rw [modP (by omega)]; rfl
      refine ⟨[.sh (.list (ns.map .int)), .sh (.int (t : Nat)), .ow (.list (cs'.map .int)), .sh (.int (j : Nat)), .sh (.int y), c], [.sh (.list (ns.map .int)), .sh (.int (t : Nat)), .ow (.list ((cs'.set (j % t) (cs'[j % t] + y * ((j : Nat) + 2))).map .int)), .sh (.int (j : Nat)), .sh (.int y), .sh (.int ((j % t : Nat) : Int))], s, rfl, .inl ?_, ⟨_, _, _, _, by rw [List.length_set]; exact hl', rfl, rfl⟩⟩
      refine exs_cons (ex_asg (x := .int ((j % t : Nat) : Int)) (s := s) (toD_E (ev_bin (bor_E rfl (ev_f1 (bor_sh rfl) rfl) rfl) (bor_sh rfl) hmd) rfl) rfl) ?_
      refine exs_cons (ex_stixO (y := .int (cs'[j % t] + y * ((j : Nat) + 2))) (s := s) (kx := .int ((j % t : Nat) : Int)) (s1 := s) ?_ (bor_sh rfl) rfl (set_ints _ _ _ hm)) rfl
      exact toD_E (ev_bin (bor_E rfl (ev_ix (bor_ow rfl) (bor_sh rfl) ha) rfl) (bor_E rfl (ev_bin (bor_sh rfl) (bor_E rfl (ev_bin (bor_sh rfl) (bor_E rfl rfl rfl) (addI _ _)) rfl) (mulR ⟨by omega, by omega⟩)) rfl) (addI _ _)) rfl)
    _ [] [.sh (.list (ns.map .int)), .sh (.int (t : Nat)), .ow (.list (cs.map .int)), .no, .no, .no] st rfl ⟨cs, _, _, _, rfl, rfl, rfl⟩
  refine ⟨cs2, by omega, by omega, ?_⟩
  refine o_own h4 rfl ?_
  refine o_cons (ex_for (hs _) hf rfl) ?_
  subst he2 hs2
  exact o_reto rfl
/-! ### a box -/
def bBox (q : Int) : Ss := (.cons (.asg (.n 2) (.ite (.cmp .lt (.v 1) (.f1 .len (.v 0))) (.ix (.v 0) (.v 1)) (.int 0))) (.cons (.rbox (.cons (.bin .mul (.f1 .abs (.v 2)) (.f1 .int (.cmp .ge (.f1 .abs (.v 2)) (.bin .pow (.int 10) (.int 18))))) (.cons (.bin .add (.bin .add (.bin .mod (.f1 .int (.v 2)) (.int 2305843009213693951)) (.bin .mul (.int 39373) (.v 1))) (.int q)) (.cons (.int 0) .nil)))) .nil))
theorem box_body (q : Int) (cs : List Int) (i : Nat) (hi : i < cs.length) (st : Sto) : ∃ a b : Int,
    out (execs gl cf W (bBox q) [.sh (.list (cs.map .int)), .sh (.int (i : Nat)), .no] st) = some (.rf st.length, st ++ [[.int a, .int b, .int 0]]) := by
  have ha : ixD (.list (cs.map .int)) (.int (i : Nat)) = some (.int cs[i]) := atI_nat (by rw [List.getElem?_map, List.getElem?_eq_getElem hi]; rfl)
  generalize cs[i] = c at ha
  refine ⟨(if c < 0 then -c else c) * (if decide ((10 : Int) ^ 18 ≤ (if c < 0 then -c else c)) then 1 else 0), c % 2305843009213693951 + 39373 * (i : Nat) + q, ?_⟩
  have hl : bor (.f1 .len (.v 0)) (ev gl cf (.f1 .len (.v 0)) [.sh (.list (cs.map .int)), .sh (.int (i : Nat)), .no] st) [.sh (.list (cs.map .int)), .sh (.int (i : Nat)), .no] st = some (.int (cs.length : Nat), st) := bor_E rfl (ev_f1 (bor_sh rfl) (show some (Vl.d (.int ((cs.map PyData.int).length : Nat))) = _ by rw [List.length_map])) rfl
  refine o_asg (x := .int c) (s1 := st) (toD_E (w := .d (.int c)) (ev_ite (k := true) (x := .bool (decide (((i : Nat) : Int) < (cs.length : Nat)))) (s := st) (bor_E rfl (ev_cmp (bor_sh rfl) hl (Pi.lt_int _ _)) rfl) (by rw [decide_eq_true (by omega)]; rfl) ?_) rfl) rfl ?_
  · rw [if_pos rfl]
    exact ev_ix (bor_sh rfl) (bor_sh rfl) ha
  refine o_rbox (s := st) ?_ (by decide : (3 : Nat) ≤ SL)
  have hp : binD .pow (.int 10) (.int 18) = some (.d (.int (10 ^ 18))) := by
    show Option.map (fun k => Vl.d (.int k)) (powD 10 18) = _
    have : powD 10 18 = some (10 ^ 18) := by decide +kernel
    rw [this]; rfl
  have hab : ∀ e : Ev, look e 2 = .sh (.int c) → bor (.f1 .abs (.v 2)) (ev gl cf (.f1 .abs (.v 2)) e st) e st = some (.int (if c < 0 then -c else c), st) := fun e he => bor_E rfl (ev_f1 (bor_sh he) rfl) rfl
  refine evs_cons (s := st) (toD_E (ev_bin (hab _ rfl) (bor_E rfl (ev_f1 (bor_E rfl (ev_cmp (hab _ rfl) (bor_E rfl (ev_bin (bor_E rfl rfl rfl) (bor_E rfl rfl rfl) hp) rfl) (Pi.ge_int _ _)) rfl) rfl) rfl) (mulR ?_)) rfl) ?_
  · generalize decide ((10 : Int) ^ 18 ≤ (if c < 0 then -c else c)) = kk
    cases kk <;> exact ⟨by decide, by decide⟩
  refine evs_cons (s := st) (toD_E (ev_bin (bor_E rfl (ev_bin (bor_E rfl (ev_bin (bor_E rfl (ev_f1 (bor_sh rfl) rfl) rfl) (bor_E rfl rfl rfl) (modP (by decide))) rfl) (bor_E rfl (ev_bin (bor_E rfl rfl rfl) (bor_sh rfl) (mulL ⟨by decide, by decide⟩)) rfl) (addI _ _)) rfl) (bor_E rfl rfl rfl) (addI _ _)) rfl) ?_
  rfl
theorem box_new {st : Sto} {a b : Int} (hs : scalS st = true) : BoxOk 0 (st ++ [[.int a, .int b, .int 0]]) st.length := ⟨a, b, 0, by simp, by omega, by omega, scal_app hs rfl⟩
end
end Pi

end
section
set_option Elab.async false
set_option linter.all false
set_option maxRecDepth 100000
set_option maxHeartbeats 4000000
namespace Pi
open PySem
/-! ### the same tree -/
mutual
def eqD : D → D → Bool
  | .none, .none => true
  | .bool a, .bool b => a == b
  | .int a, .int b => decide (a = b)
  | .str a, .str b => decide (a = b)
  | .list xs, .list ys => eqDs xs ys
  | .tuple xs, .tuple ys => eqDs xs ys
  | _, _ => false
def eqDs : List D → List D → Bool
  | [], [] => true
  | x :: xs, y :: ys => eqD x y && eqDs xs ys
  | _, _ => false
end
mutual
theorem eqD_eq : ∀ x y : D, eqD x y = true → x = y
  | .none, y, h => by cases y <;> first | rfl | (simp [eqD] at h)
  | .bool a, y, h => by cases y <;> first | (simp [eqD] at h; done) | (simp [eqD] at h; rw [h])
  | .int a, y, h => by cases y <;> first | (simp [eqD] at h; done) | (simp [eqD] at h; rw [h])
  | .str a, y, h => by cases y <;> first | (simp [eqD] at h; done) | (simp [eqD] at h; rw [h])
  | .list xs, y, h => by
    cases y with
    | list ys => rw [eqD] at h; rw [eqDs_eq xs ys h]
    | _ => simp [eqD] at h
  | .tuple xs, y, h => by
    cases y with
    | tuple ys => rw [eqD] at h; rw [eqDs_eq xs ys h]
    | _ => simp [eqD] at h
  | .dict _, y, h => by cases y <;> simp [eqD] at h
theorem eqDs_eq : ∀ xs ys : List D, eqDs xs ys = true → xs = ys
  | [], [], _ => rfl
  | x :: xs, y :: ys, h => by
    rw [eqDs, Bool.and_eq_true] at h
    rw [eqD_eq x y h.1, eqDs_eq xs ys h.2]
  | [], _ :: _, h => by simp [eqDs] at h
  | _ :: _, [], h => by simp [eqDs] at h
end
/-! ### a law's own comparison of a tree with itself -/
def bSame (f : Nat) : Ss := (.cons (.ite (.isi (.v 1) [.list, .tuple]) (.cons (.ite (.cmp .ne (.isi (.v 0) [.list]) (.isi (.v 1) [.list])) (.cons (.ret (.bl false)) .nil) .nil) (.cons (.ite (.cmp .ne (.isi (.v 0) [.tuple]) (.isi (.v 1) [.tuple])) (.cons (.ret (.bl false)) .nil) .nil) (.cons (.ret (.and (.cmp .eq (.f1 .len (.v 0)) (.f1 .len (.v 1))) (.f1 .all (.lc [2, 3] (.call f (.cons (.v 2) (.cons (.v 3) .nil))) (.t (.cons (.n 2) (.cons (.n 3) .nil))) (.zip (.v 0) (.v 1)) .no)))) .nil))) .nil) (.cons (.ite (.or (.isN (.v 1)) (.isi (.v 1) [.bool, .str])) (.cons (.ret (.and (.cmp .eq (.v 0) (.v 1)) (.and (.cmp .eq (.isi (.v 0) [.bool]) (.isi (.v 1) [.bool])) (.cmp .eq (.isN (.v 0)) (.isN (.v 1)))))) .nil) .nil) (.cons (.ret (.and (.isi (.v 0) [.int]) (.and (.not (.isi (.v 0) [.bool])) (.cmp .eq (.v 0) (.v 1))))) .nil)))
/-- trees that may be compared: no dict, lists not too long, not deeper than k -/
def fine : Nat → D → Bool
  | _ + 1, .none => true
  | _ + 1, .bool _ => true
  | _ + 1, .int _ => true
  | _ + 1, .str _ => true
  | k + 1, .list xs => decide (xs.length ≤ SL) && xs.all (fine k)
  | k + 1, .tuple xs => decide (xs.length ≤ SL) && xs.all (fine k)
  | _, _ => false
theorem fine_mono : ∀ (k : Nat) (x : D), fine k x = true → fine (k + 1) x = true
  | 0, x, h => by cases x <;> simp [fine] at h
  | k + 1, x, h => by
    cases x with
    | list xs =>
      simp only [fine, Bool.and_eq_true, decide_eq_true_eq, List.all_eq_true] at h ⊢
      exact ⟨h.1, fun y hy => fine_mono k y (h.2 y hy)⟩
    | tuple xs =>
      simp only [fine, Bool.and_eq_true, decide_eq_true_eq, List.all_eq_true] at h ⊢
      exact ⟨h.1, fun y hy => fine_mono k y (h.2 y hy)⟩
    | dict _ => simp [fine] at h
    | _ => simp [fine]
theorem fine_le {k j : Nat} (h : k ≤ j) {x : D} (hf : fine k x = true) : fine j x = true := by
  induction h with
  | refl => exact hf
  | step _ ih => exact fine_mono _ _ ih
theorem ok_bool (k : Bool) : okD (.bool k) = true := by simp [okD, PySem.PyData.plain, PySem.PyData.depth]
theorem ok_str (k : Str) : okD (.str k) = true := by simp [okD, PySem.PyData.plain, PySem.PyData.depth]
theorem ok_none : okD .none = true := by simp [okD, PySem.PyData.plain, PySem.PyData.depth]
theorem eq_bool (a b : Bool) : cmpD .eq (.bool a) (.bool b) = some (a == b) := by
  show (if okD (.bool a) && okD (.bool b) then some (PySem.PyData.eqv (.bool a) (.bool b)) else none) = _
  rw [ok_bool, ok_bool, if_pos (show (true && true) = true from rfl)]
  cases a <;> cases b <;> simp [PySem.PyData.eqv]
theorem ne_bool (a : Bool) : cmpD .ne (.bool a) (.bool a) = some false := by
  show (if okD (.bool a) && okD (.bool a) then some (!PySem.PyData.eqv (.bool a) (.bool a)) else none) = _
  rw [ok_bool, if_pos (show (true && true) = true from rfl)]
  cases a <;> simp [PySem.PyData.eqv]
theorem eq_self {x : D} (h : okD x = true) : cmpD .eq x x = some true := by
  show (if okD x && okD x then some (PySem.PyData.eqv x x) else none) = _
  rw [h, if_pos (show (true && true) = true from rfl)]
  have : x.plain = true := by
    unfold okD at h
    simp only [Bool.and_eq_true] at h
    exact h.1
  rw [PySem.SeqAt.eqv_refl_plain x this]
theorem len_sq (b : Bool) (xs : List D) : f1D .len (sq b xs) = some (.d (.int xs.length)) := by cases b <;> rfl
theorem zip_sq (b : Bool) (xs ys : List D) : zipQ (sq b xs) (sq b ys) = some (zipD xs ys) := by cases b <;> rfl
section
variable {gl : Nat → Option D} {W : Nat}
abbrev sEv (x : D) : Ev := [.sh x, .sh x, .no, .no]
theorem same_leaf {cf : Cf} {f : Nat} {x : D} (hx : (∃ b, x = .bool b) ∨ (∃ b, x = .str b) ∨ x = .none) (st : Sto) : out (execs gl cf W (bSame f) (sEv x) st) = some (.d (.bool true), st) := by
  have ok : okD x = true := by
    rcases hx with ⟨b, rfl⟩ | ⟨b, rfl⟩ | rfl
    · exact ok_bool b
    · exact ok_str b
    · exact ok_none
  have nd : noDict x = true := by rcases hx with ⟨b, rfl⟩ | ⟨b, rfl⟩ | rfl <;> rfl
  refine o_iteF (s := st) (tru_E (bor_E rfl (ev_isi (bor_sh rfl) nd) rfl) (by rcases hx with ⟨b, rfl⟩ | ⟨b, rfl⟩ | rfl <;> rfl)) ?_
  have hi : ∀ i, i < 2 → bor (.isi (.v i) [.bool]) (ev gl cf (.isi (.v i) [.bool]) (sEv x) st) (sEv x) st = some (.bool ([Ty.bool].any (isTy x)), st) := fun i hi => by
    match i, hi with
    | 0, _ => exact bor_E rfl (ev_isi (bor_sh rfl) nd) rfl
    | 1, _ => exact bor_E rfl (ev_isi (bor_sh rfl) nd) rfl
  have hc : tru (bor (.or (.isN (.v 1)) (.isi (.v 1) [.bool, .str])) (ev gl cf (.or (.isN (.v 1)) (.isi (.v 1) [.bool, .str])) (sEv x) st) (sEv x) st) = some (true, st) := by
    rcases hx with ⟨b, rfl⟩ | ⟨b, rfl⟩ | rfl <;> rfl
  refine o_iteT (s := st) hc ?_
  refine o_ret ?_
  refine ev_andT (toD_E (ev_cmp (bor_sh rfl) (bor_sh rfl) (eq_self ok)) rfl) rfl ?_
  refine ev_andT (toD_E (ev_cmp (hi 0 (by decide)) (hi 1 (by decide)) (eq_bool _ _)) rfl) (by simp [truD]) ?_
  refine (ev_cmp (r := true) (x := .bool (isNone x)) (y := .bool (isNone x)) (s := st) ?_ ?_ ?_)
  · rcases hx with ⟨b, rfl⟩ | ⟨b, rfl⟩ | rfl <;> rfl
  · rcases hx with ⟨b, rfl⟩ | ⟨b, rfl⟩ | rfl <;> rfl
  · rw [eq_bool]; simp
theorem same_num {cf : Cf} {f : Nat} {i : Int} (st : Sto) : out (execs gl cf W (bSame f) (sEv (.int i)) st) = some (.d (.bool true), st) := by
  refine o_iteF (s := st) (tru_E (bor_E rfl (ev_isi (bor_sh rfl) rfl) rfl) rfl) ?_
  refine o_iteF (s := st) rfl ?_
  refine o_ret ?_
  refine ev_andT (toD_E (ev_isi (bor_sh rfl) rfl) rfl) rfl (ev_andT rfl rfl ?_)
  exact ev_cmp (bor_sh rfl) (bor_sh rfl) (eq_self (ok_int i))
theorem same_sq {cf : Cf} {f : Nat} (b : Bool) (xs : List D) (st : Sto) (hl : xs.length ≤ SL) (h : ∀ x ∈ xs, cf f [.d x, .d x] st = some (.d (.bool true), st)) : out (execs gl cf W (bSame f) (sEv (sq b xs)) st) = some (.d (.bool true), st) := by
  have nd : noDict (sq b xs) = true := by cases b <;> rfl
  have hi : ∀ (i : Nat) (ts : List Ty), i = 0 ∨ i = 1 → bor (.isi (.v i) ts) (ev gl cf (.isi (.v i) ts) (sEv (sq b xs)) st) (sEv (sq b xs)) st = some (.bool (ts.any (isTy (sq b xs))), st) := fun i ts hh => by
    rcases hh with rfl | rfl
    · exact bor_E rfl (ev_isi (bor_sh rfl) nd) rfl
    · exact bor_E rfl (ev_isi (bor_sh rfl) nd) rfl
  refine o_iteT (s := st) (tru_E (hi 1 _ (.inr rfl)) (by cases b <;> rfl)) ?_
  refine o_iteF (s := st) (tru_E (bor_E rfl (ev_cmp (hi 0 _ (.inl rfl)) (hi 1 _ (.inr rfl)) (ne_bool _)) rfl) rfl) ?_
  refine o_iteF (s := st) (tru_E (bor_E rfl (ev_cmp (hi 0 _ (.inl rfl)) (hi 1 _ (.inr rfl)) (ne_bool _)) rfl) rfl) ?_
  refine o_ret ?_
  refine ev_andT (x := .bool true) (s := st) (toD_E (w := .d (.bool true)) (ev_cmp (bor_E rfl (ev_f1 (bor_sh rfl) (len_sq b xs)) rfl) (bor_E rfl (ev_f1 (bor_sh rfl) (len_sq b xs)) rfl) (eq_self (ok_int _))) rfl) rfl ?_
  refine ev_f1 (bor_E rfl (ev_lc (xs := xs) (fun x => .tuple [x, x]) (fun _ => .bool true) ?_ ?_ hl) rfl) ?_
  · refine evi_zip (bor_sh rfl) (bor_sh rfl) ?_
    rw [zip_sq]
    have := zipD_map (fun x : D => x) (fun x : D => x) xs
    simpa using this
  · intro x hx
    refine ⟨[.sh (sq b xs), .sh (sq b xs), .sh x, .sh x], rfl, rfl, ?_⟩
    exact toD_E (ev_call (eva_cons (ev_sh rfl) (eva_cons (ev_sh rfl) eva_nil)) (h x hx)) rfl
  · show (boolsD (xs.map fun _ => .bool true)).map (fun bs => Vl.d (.bool (bs.all id))) = _
    rw [boolsD_map (fun _ => true)]
    simp
theorem same_refl {P : List Fn} {f : Nat} (hP : P[f]? = some ⟨2, 4, bSame f⟩) : ∀ (k : Nat) (x : D) (st : Sto), fine k x = true → run gl P W k f [.d x, .d x] st = some (.d (.bool true), st)
  | 0, x, st, h => by cases x <;> simp [fine] at h
  | k + 1, x, st, h => by
    show (match P[f]? with | some F => if 2 = F.np then out (execs gl (run gl P W k) W F.body ([Vl.d x, .d x].map slotOf ++ List.replicate (F.nn - F.np) Slot.no) st) else none | none => none) = _
    rw [hP]
    show out (execs gl (run gl P W k) W (bSame f) (sEv x) st) = _
    cases x with
    | none => exact same_leaf (.inr (.inr rfl)) st
    | bool b => exact same_leaf (.inl ⟨b, rfl⟩) st
    | str b => exact same_leaf (.inr (.inl ⟨b, rfl⟩)) st
    | int i => exact same_num st
    | list xs =>
      simp only [fine, Bool.and_eq_true, decide_eq_true_eq, List.all_eq_true] at h
      exact same_sq false xs st h.1 fun y hy => same_refl hP k y st (h.2 y hy)
    | tuple xs =>
      simp only [fine, Bool.and_eq_true, decide_eq_true_eq, List.all_eq_true] at h
      exact same_sq true xs st h.1 fun y hy => same_refl hP k y st (h.2 y hy)
    | dict _ => simp [fine] at h
end
end Pi

end
section
set_option Elab.async false
set_option linter.all false
set_option maxRecDepth 100000
set_option maxHeartbeats 4000000
namespace Pi
open PySem
section
variable {gl : Nat → Option D} {cf : Cf} {W : Nat}
theorem turns_inv2 {bd : D → Ev → Option Ev} {tt : Ev → Sto → Option (Bool × Sto)} {el : Ev → Sto → Option (D × Sto)} {env : Ev} {ys : List D} (I : List D → Sto → Prop)
    (h : ∀ pre x post acc st, ys = pre ++ x :: post → acc.length = pre.length → I acc st → ∃ e1 y s2, bd x env = some e1 ∧ tt e1 st = some (true, st) ∧ el e1 st = some (y, s2) ∧ I (acc ++ [y]) s2) (hl : ys.length ≤ SL) :
    ∀ (xs pre acc : List D) (st : Sto), ys = pre ++ xs → acc.length = pre.length → I acc st → ∃ zs s2, turns bd tt el env xs acc st = some (zs, s2) ∧ I zs s2 ∧ zs.length = ys.length
  | [], pre, acc, st, e, hn, hi => ⟨acc, st, rfl, hi, by rw [e, List.append_nil]; exact hn⟩
  | x :: xs, pre, acc, st, e, hn, hi => by
    obtain ⟨e1, y, s2, h1, h2, h3, h4⟩ := h pre x xs acc st e hn hi
    obtain ⟨zs, s3, h5, h6, h7⟩ := turns_inv2 I h hl xs (pre ++ [x]) (acc ++ [y]) s2 (by rw [e]; simp) (by simp [hn]) h4
    refine ⟨zs, s3, ?_, h6, h7⟩
    have hlt : acc.length < SL := by
      have := congrArg List.length e
      rw [List.length_append, List.length_cons] at this
      omega
    unfold turns
    simp only [h1, h2, h3, bnd_some]
    rw [if_pos trivial, if_pos hlt]
    exact h5
/-- a comprehension whose element changes the store -/
theorem ev_lcI {vs : List Nat} {e : E} {t : Tg} {it : It} {c : Oe} {env : Ev} {st s : Sto} {xs : List D} (I : List D → Sto → Prop) (hi : evi gl cf it env st = some (xs, s)) (h0 : I [] s)
    (h : ∀ pre x post acc st, xs = pre ++ x :: post → acc.length = pre.length → I acc st → ∃ e1 y s2, bindT t x (wipeE env vs) = some e1 ∧ evc gl cf c e1 st = some (true, st) ∧ toD (ev gl cf e e1 st) = some (y, s2) ∧ I (acc ++ [y]) s2) (hl : xs.length ≤ SL) :
    ∃ ys s2, ev gl cf (.lc vs e t it c) env st = some (.fr (.list ys), s2) ∧ I ys s2 ∧ ys.length = xs.length := by
  obtain ⟨ys, s2, h1, h2, h3⟩ := turns_inv2 (bd := bindT t) (tt := fun e1 s1 => evc gl cf c e1 s1) (el := fun e1 s1 => toD (ev gl cf e e1 s1)) (env := wipeE env vs) I h hl xs [] [] s rfl rfl h0
  refine ⟨ys, s2, ?_, h2, h3⟩
  show bnd (evi gl cf it env st) (fun xs s => bnd (turns (bindT t) (fun e1 s1 => evc gl cf c e1 s1) (fun e1 s1 => toD (ev gl cf e e1 s1)) (wipeE env vs) xs [] s) fun ys s' => some (Vl.fr (.list ys), s')) = _
  rw [hi, bnd_some, h1, bnd_some]
theorem look_set_ne {env : Ev} {i j : Nat} {s : Slot} (h : i ≠ j) : look (env.set i s) j = look env j := by
  unfold look
  rw [List.getD_eq_getElem?_getD, List.getD_eq_getElem?_getD, List.getElem?_set_ne h]
theorem look_set_eq {env : Ev} {i : Nat} {s : Slot} (h : i < env.length) : look (env.set i s) i = s := by
  unfold look
  rw [List.getD_eq_getElem?_getD, List.getElem?_set_self h]; rfl
/-- a comprehension that always tells true -/
theorem all_true {vs : List Nat} {e : E} {t : Tg} {it : It} {c : Oe} {env : Ev} {st s : Sto} {xs : List D} (I : Nat → Sto → Prop) (hi : evi gl cf it env st = some (xs, s)) (h0 : I 0 s)
    (h : ∀ pre x post st, xs = pre ++ x :: post → I pre.length st → ∃ e1 s2, bindT t x (wipeE env vs) = some e1 ∧ evc gl cf c e1 st = some (true, st) ∧ toD (ev gl cf e e1 st) = some (.bool true, s2) ∧ I (pre.length + 1) s2) (hl : xs.length ≤ SL) :
    ∃ s2, ev gl cf (.f1 .all (.lc vs e t it c)) env st = some (.d (.bool true), s2) ∧ I xs.length s2 := by
  obtain ⟨ys, s2, h1, ⟨h2, h3⟩, h4⟩ := ev_lcI (gl := gl) (cf := cf) (vs := vs) (e := e) (t := t) (c := c) (fun acc st => (∀ y ∈ acc, y = .bool true) ∧ I acc.length st) hi ⟨fun _ h => (by cases h), h0⟩ (fun pre x post acc st e hn ⟨i1, i2⟩ => by
    obtain ⟨e1, s2, q1, q2, q3, q4⟩ := h pre x post st e (by rw [← hn]; exact i2)
    refine ⟨e1, _, s2, q1, q2, q3, ?_, by rw [List.length_append, List.length_singleton, hn]; exact q4⟩
    intro y hy
    rcases List.mem_append.mp hy with hy | hy
    · exact i1 y hy
    · exact List.mem_singleton.mp hy) hl
  refine ⟨s2, ev_f1 (bor_E rfl h1 rfl) ?_, h4 ▸ h3⟩
  show (boolsD ys).map (fun bs => Vl.d (.bool (bs.all id))) = _
  have hb : ∀ zs : List D, (∀ y ∈ zs, y = .bool true) → boolsD zs = some (List.replicate zs.length true) := fun zs => by
    induction zs with
    | nil => exact fun _ => rfl
    | cons z zs ih =>
      intro hz
      have := hz z List.mem_cons_self
      subst this
      show (boolsD zs).map (true :: ·) = _
      rw [ih fun y hy => hz y (List.mem_cons_of_mem _ hy)]; rfl
  rw [hb ys h2]
  simp
end
end Pi

end
section
set_option Elab.async false
set_option linter.all false
set_option maxRecDepth 100000
set_option maxHeartbeats 4000000
namespace Pi
open PySem
/-! the other form of `_law_same` -/
def bSame2 (f : Nat) : Ss := (.cons (.ite (.isi (.v 1) [.list, .tuple]) (.cons (.ite (.or (.cmp .ne (.isi (.v 0) [.list]) (.isi (.v 1) [.list])) (.cmp .ne (.isi (.v 0) [.tuple]) (.isi (.v 1) [.tuple]))) (.cons (.ret (.bl false)) .nil) .nil) (.cons (.ret (.and (.cmp .eq (.f1 .len (.v 0)) (.f1 .len (.v 1))) (.f1 .all (.lc [2, 3] (.call f (.cons (.v 2) (.cons (.v 3) .nil))) (.t (.cons (.n 2) (.cons (.n 3) .nil))) (.zip (.v 0) (.v 1)) .no)))) .nil)) .nil) (.cons (.ite (.or (.isN (.v 1)) (.isi (.v 1) [.bool, .str])) (.cons (.ret (.and (.cmp .eq (.v 0) (.v 1)) (.and (.cmp .eq (.isi (.v 0) [.bool]) (.isi (.v 1) [.bool])) (.cmp .eq (.isN (.v 0)) (.isN (.v 1)))))) .nil) .nil) (.cons (.ret (.and (.isi (.v 0) [.int]) (.and (.not (.isi (.v 0) [.bool])) (.cmp .eq (.v 0) (.v 1))))) .nil)))
section
variable {gl : Nat → Option D} {W : Nat}
theorem same2_leaf {cf : Cf} {f : Nat} {x : D} (hx : (∃ b, x = .bool b) ∨ (∃ b, x = .str b) ∨ x = .none) (st : Sto) : out (execs gl cf W (bSame2 f) (sEv x) st) = some (.d (.bool true), st) := by
  have ok : okD x = true := by
    rcases hx with ⟨b, rfl⟩ | ⟨b, rfl⟩ | rfl
    · exact ok_bool b
    · exact ok_str b
    · exact ok_none
  have nd : noDict x = true := by rcases hx with ⟨b, rfl⟩ | ⟨b, rfl⟩ | rfl <;> rfl
  refine o_iteF (s := st) (tru_E (bor_E rfl (ev_isi (bor_sh rfl) nd) rfl) (by rcases hx with ⟨b, rfl⟩ | ⟨b, rfl⟩ | rfl <;> rfl)) ?_
  have hi : ∀ i, i < 2 → bor (.isi (.v i) [.bool]) (ev gl cf (.isi (.v i) [.bool]) (sEv x) st) (sEv x) st = some (.bool ([Ty.bool].any (isTy x)), st) := fun i hi => by
    match i, hi with
    | 0, _ => exact bor_E rfl (ev_isi (bor_sh rfl) nd) rfl
    | 1, _ => exact bor_E rfl (ev_isi (bor_sh rfl) nd) rfl
  have hc : tru (bor (.or (.isN (.v 1)) (.isi (.v 1) [.bool, .str])) (ev gl cf (.or (.isN (.v 1)) (.isi (.v 1) [.bool, .str])) (sEv x) st) (sEv x) st) = some (true, st) := by
    rcases hx with ⟨b, rfl⟩ | ⟨b, rfl⟩ | rfl <;> rfl
  refine o_iteT (s := st) hc ?_
  refine o_ret ?_
  refine ev_andT (toD_E (ev_cmp (bor_sh rfl) (bor_sh rfl) (eq_self ok)) rfl) rfl ?_
  refine ev_andT (toD_E (ev_cmp (hi 0 (by decide)) (hi 1 (by decide)) (eq_bool _ _)) rfl) (by simp [truD]) ?_
  refine (ev_cmp (r := true) (x := .bool (isNone x)) (y := .bool (isNone x)) (s := st) ?_ ?_ ?_)
  · rcases hx with ⟨b, rfl⟩ | ⟨b, rfl⟩ | rfl <;> rfl
  · rcases hx with ⟨b, rfl⟩ | ⟨b, rfl⟩ | rfl <;> rfl
  · rw [eq_bool]; simp
theorem same2_num {cf : Cf} {f : Nat} {i : Int} (st : Sto) : out (execs gl cf W (bSame2 f) (sEv (.int i)) st) = some (.d (.bool true), st) := by
  refine o_iteF (s := st) (tru_E (bor_E rfl (ev_isi (bor_sh rfl) rfl) rfl) rfl) ?_
  refine o_iteF (s := st) rfl ?_
  refine o_ret ?_
  refine ev_andT (toD_E (ev_isi (bor_sh rfl) rfl) rfl) rfl (ev_andT rfl rfl ?_)
  exact ev_cmp (bor_sh rfl) (bor_sh rfl) (eq_self (ok_int i))
theorem same2_sq {cf : Cf} {f : Nat} (b : Bool) (xs : List D) (st : Sto) (hl : xs.length ≤ SL) (h : ∀ x ∈ xs, cf f [.d x, .d x] st = some (.d (.bool true), st)) : out (execs gl cf W (bSame2 f) (sEv (sq b xs)) st) = some (.d (.bool true), st) := by
  have nd : noDict (sq b xs) = true := by cases b <;> rfl
  have hi : ∀ (i : Nat) (ts : List Ty), i = 0 ∨ i = 1 → bor (.isi (.v i) ts) (ev gl cf (.isi (.v i) ts) (sEv (sq b xs)) st) (sEv (sq b xs)) st = some (.bool (ts.any (isTy (sq b xs))), st) := fun i ts hh => by
    rcases hh with rfl | rfl
    · exact bor_E rfl (ev_isi (bor_sh rfl) nd) rfl
    · exact bor_E rfl (ev_isi (bor_sh rfl) nd) rfl
  refine o_iteT (s := st) (tru_E (hi 1 _ (.inr rfl)) (by cases b <;> rfl)) ?_
  refine o_iteF (s := st) (tru_E (bor_E rfl (ev_or2 (ev_cmp (hi 0 _ (.inl rfl)) (hi 1 _ (.inr rfl)) (ne_bool _)) rfl rfl (ev_cmp (hi 0 _ (.inl rfl)) (hi 1 _ (.inr rfl)) (ne_bool _))) rfl) rfl) ?_
  refine o_ret ?_
  refine ev_andT (x := .bool true) (s := st) (toD_E (w := .d (.bool true)) (ev_cmp (bor_E rfl (ev_f1 (bor_sh rfl) (len_sq b xs)) rfl) (bor_E rfl (ev_f1 (bor_sh rfl) (len_sq b xs)) rfl) (eq_self (ok_int _))) rfl) rfl ?_
  refine ev_f1 (bor_E rfl (ev_lc (xs := xs) (fun x => .tuple [x, x]) (fun _ => .bool true) ?_ ?_ hl) rfl) ?_
  · refine evi_zip (bor_sh rfl) (bor_sh rfl) ?_
    rw [zip_sq]
    have := zipD_map (fun x : D => x) (fun x : D => x) xs
    simpa using this
  · intro x hx
    refine ⟨[.sh (sq b xs), .sh (sq b xs), .sh x, .sh x], rfl, rfl, ?_⟩
    exact toD_E (ev_call (eva_cons (ev_sh rfl) (eva_cons (ev_sh rfl) eva_nil)) (h x hx)) rfl
  · show (boolsD (xs.map fun _ => .bool true)).map (fun bs => Vl.d (.bool (bs.all id))) = _
    rw [boolsD_map (fun _ => true)]
    simp
theorem same2_refl {P : List Fn} {f : Nat} (hP : P[f]? = some ⟨2, 4, bSame2 f⟩) : ∀ (k : Nat) (x : D) (st : Sto), fine k x = true → run gl P W k f [.d x, .d x] st = some (.d (.bool true), st)
  | 0, x, st, h => by cases x <;> simp [fine] at h
  | k + 1, x, st, h => by
    show (match P[f]? with | some F => if 2 = F.np then out (execs gl (run gl P W k) W F.body ([Vl.d x, .d x].map slotOf ++ List.replicate (F.nn - F.np) Slot.no) st) else none | none => none) = _
    rw [hP]
    show out (execs gl (run gl P W k) W (bSame2 f) (sEv x) st) = _
    cases x with
    | none => exact same2_leaf (.inr (.inr rfl)) st
    | bool b => exact same2_leaf (.inl ⟨b, rfl⟩) st
    | str b => exact same2_leaf (.inr (.inl ⟨b, rfl⟩)) st
    | int i => exact same2_num st
    | list xs =>
      simp only [fine, Bool.and_eq_true, decide_eq_true_eq, List.all_eq_true] at h
      exact same2_sq false xs st h.1 fun y hy => same2_refl hP k y st (h.2 y hy)
    | tuple xs =>
      simp only [fine, Bool.and_eq_true, decide_eq_true_eq, List.all_eq_true] at h
      exact same2_sq true xs st h.1 fun y hy => same2_refl hP k y st (h.2 y hy)
    | dict _ => simp [fine] at h
end
end Pi

end
section
set_option Elab.async false
set_option linter.all false
set_option maxRecDepth 100000
set_option maxHeartbeats 4000000
namespace Pi
open PySem
section
variable {gl : Nat → Option D} {cf : Cf} {W : Nat}
theorem ev_g {i : Nat} {env : Ev} {st : Sto} {x : D} (h : gl i = some x) : ev gl cf (.g i) env st = some (.d x, st) := by
  show ret ((gl i).map Vl.d) st = _
  rw [h]; rfl
theorem ev_m1 {m : M1} {a b : E} {env : Ev} {st s s2 : Sto} {x y : D} {r : Vl} (h : bor a (ev gl cf a env st) env st = some (x, s)) (g : bor b (ev gl cf b env s) env s = some (y, s2)) (hf : m1D m x y = some r) : ev gl cf (.m1 m a b) env st = some (r, s2) := by
  show bnd (bor a (ev gl cf a env st) env st) (fun x s => bnd (bor b (ev gl cf b env s) env s) fun y s' => ret (m1D m x y) s') = _
  rw [h, bnd_some, g, bnd_some, hf]; rfl
theorem ev_chain {o o' : Cop} {a b c : E} {env : Ev} {st s s2 : Sto} {x y z : D} {k l : Bool} (h : bor a (ev gl cf a env st) env st = some (x, s)) (g : bor b (ev gl cf b env s) env s = some (y, s2)) (hf : cmpD o x y = some k) (hc : bor c (ev gl cf c env s2) env s2 = some (z, s2)) (hf2 : cmpD o' y z = some l) :
    ev gl cf (.chain o o' a b c) env st = some (.d (.bool (k && l)), s2) := by
  show bnd (bor a (ev gl cf a env st) env st) (fun x s => bnd (bor b (ev gl cf b env s) env s) fun y s' => bnd (ret (cmpD o x y) s') fun k s2 => if k then bnd (bor c (ev gl cf c env s2) env s2) fun z s3 => ret ((cmpD o' y z).map fun k => Vl.d (.bool k)) s3 else some (Vl.d (.bool false), s2)) = _
  rw [h, bnd_some, g, bnd_some, hf]
  show (if k = true then _ else _) = _
  cases k with
  | false => rfl
  | true =>
    rw [if_pos (Eq.refl _), hc, bnd_some, hf2]; rfl
theorem evi_rng2 {a b : E} {env : Ev} {st s s2 : Sto} {i j : Int} {xs : List D} (h : bor a (ev gl cf a env st) env st = some (.int i, s)) (g : bor b (ev gl cf b env s) env s = some (.int j, s2)) (hx : rg2D i j = some xs) : evi gl cf (.rng2 a b) env st = some (xs, s2) := by
  show bnd (bor a (ev gl cf a env st) env st) (fun x s => bnd (bor b (ev gl cf b env s) env s) fun y s' => ret ((asInt x).bind fun i => (asInt y).bind fun j => rg2D i j) s') = _
  rw [h, bnd_some, g, bnd_some]
  show ret (rg2D i j) s2 = _
  rw [hx]; rfl
theorem evi_rng3 {a b c : E} {env : Ev} {st s s2 s3 : Sto} {i j k : Int} {xs : List D} (h : bor a (ev gl cf a env st) env st = some (.int i, s)) (g : bor b (ev gl cf b env s) env s = some (.int j, s2)) (g2 : bor c (ev gl cf c env s2) env s2 = some (.int k, s3)) (hx : rgC i j k = some xs) :
    evi gl cf (.rng3 a b c) env st = some (xs, s3) := by
  show bnd (bor a (ev gl cf a env st) env st) (fun x s => bnd (bor b (ev gl cf b env s) env s) fun y s' => bnd (bor c (ev gl cf c env s') env s') fun z s2 => ret ((asInt x).bind fun i => (asInt y).bind fun j => (asInt z).bind fun k => rgC i j k) s2) = _
  rw [h, bnd_some, g, bnd_some, g2, bnd_some]
  show ret (rgC i j k) s3 = _
  rw [hx]; rfl
/-- a comprehension with a test -/
theorem turns_fil {α : Type} {bd : D → Ev → Option Ev} {tt : Ev → Sto → Option (Bool × Sto)} {el : Ev → Sto → Option (D × Sto)} {env : Ev} {st : Sto} (a : α → D) (p : α → Bool) (f : α → D) :
    ∀ (xs : List α) (acc : List D), (∀ x ∈ xs, ∃ e1, bd (a x) env = some e1 ∧ tt e1 st = some (p x, st) ∧ (p x = true → el e1 st = some (f x, st))) → acc.length + xs.length ≤ SL → turns bd tt el env (xs.map a) acc st = some (acc ++ (xs.filter p).map f, st)
  | [], acc, _, _ => by simp [turns]
  | x :: xs, acc, h, hl => by
    obtain ⟨e1, h1, h2, h3⟩ := h x List.mem_cons_self
    rw [List.length_cons] at hl
    rw [List.map_cons]
    unfold turns
    simp only [h1, h2, bnd_some]
    cases hp : p x with
    | true =>
      simp only [h3 hp, bnd_some]
      rw [if_pos trivial, if_pos (by omega), turns_fil a p f xs (acc ++ [f x]) (fun y hy => h y (List.mem_cons_of_mem _ hy)) (by rw [List.length_append, List.length_singleton]; omega), List.filter_cons_of_pos hp]
      simp
    | false =>
      rw [if_neg (by simp), turns_fil a p f xs acc (fun y hy => h y (List.mem_cons_of_mem _ hy)) (by omega), List.filter_cons_of_neg (by simp [hp])]
theorem ev_lcF {α : Type} {vs : List Nat} {e : E} {t : Tg} {it : It} {c : Oe} {env : Ev} {st : Sto} {xs : List α} (a : α → D) (p : α → Bool) (f : α → D) (hi : evi gl cf it env st = some (xs.map a, st))
    (h : ∀ x ∈ xs, ∃ e1, bindT t (a x) (wipeE env vs) = some e1 ∧ evc gl cf c e1 st = some (p x, st) ∧ (p x = true → toD (ev gl cf e e1 st) = some (f x, st))) (hl : xs.length ≤ SL) :
    ev gl cf (.lc vs e t it c) env st = some (.fr (.list ((xs.filter p).map f)), st) := by
  show bnd (evi gl cf it env st) (fun xs s => bnd (turns (bindT t) (fun e1 s1 => evc gl cf c e1 s1) (fun e1 s1 => toD (ev gl cf e e1 s1)) (wipeE env vs) xs [] s) fun ys s' => some (Vl.fr (.list ys), s')) = _
  rw [hi, bnd_some, turns_fil a p f xs [] h (by simpa using hl), bnd_some]
  rfl
theorem evc_yes {e : E} {env : Ev} {st s : Sto} {x : D} {k : Bool} (h : bor e (ev gl cf e env st) env st = some (x, s)) (hk : truD x = some k) : evc gl cf (.yes e) env st = some (k, s) := tru_E h hk
theorem exs_rt' {s : S} {ss : Ss} {env e1 : Ev} {st s1 : Sto} {w : Vl} (h : exec gl cf W s env st = some (.rt w, e1, s1)) : out (execs gl cf W (.cons s ss) env st) = out (some (.rt w, e1, s1)) := by rw [exs_rt h]
/-- a walk whose turns may return -/
def goF {α σ : Type} (step : σ → α → Sum σ Vl) : σ → List α → Sum σ Vl
  | s, [] => .inl s
  | s, x :: xs => match step s x with
    | .inl s' => goF step s' xs
    | .inr w => .inr w
theorem forL_go {α σ : Type} {bd : D → Ev → Option Ev} {body : Ev → Sto → SR} {st : Sto} (a : α → D) (I : σ → Ev → Prop) (step : σ → α → Sum σ Vl) :
    ∀ (xs : List α), (∀ s, ∀ x ∈ xs, ∀ env, I s env → ∃ e1 e2, bd (a x) env = some e1 ∧ ((∃ s', step s x = .inl s' ∧ body e1 st = some (.nx, e2, st) ∧ I s' e2) ∨ ∃ w, step s x = .inr w ∧ body e1 st = some (.rt w, e2, st))) →
      ∀ (s : σ) (env : Ev), I s env → ∃ e2, (∃ s', goF step s xs = .inl s' ∧ forL bd body (xs.map a) env st = some (.nx, e2, st) ∧ I s' e2) ∨ ∃ w, goF step s xs = .inr w ∧ forL bd body (xs.map a) env st = some (.rt w, e2, st)
  | [], _, s, env, hi => ⟨env, .inl ⟨s, rfl, rfl, hi⟩⟩
  | x :: xs, h, s, env, hi => by
    obtain ⟨e1, e2, h1, h2⟩ := h s x List.mem_cons_self env hi
    rcases h2 with ⟨s', h2, h3, h4⟩ | ⟨w, h2, h3⟩
    · obtain ⟨e3, h5⟩ := forL_go a I step xs (fun s y hy => h s y (List.mem_cons_of_mem _ hy)) s' e2 h4
      refine ⟨e3, ?_⟩
      rcases h5 with ⟨s2, h5, h6, h7⟩ | ⟨w, h5, h6⟩
      · refine .inl ⟨s2, ?_, ?_, h7⟩
        · unfold goF; rw [h2]; exact h5
        · rw [List.map_cons]; unfold forL; simp only [h1, h3]; exact h6
      · refine .inr ⟨w, ?_, ?_⟩
        · unfold goF; rw [h2]; exact h5
        · rw [List.map_cons]; unfold forL; simp only [h1, h3]; exact h6
    · refine ⟨e2, .inr ⟨w, ?_, ?_⟩⟩
      · unfold goF; rw [h2]
      · rw [List.map_cons]; unfold forL; simp only [h1, h3]
theorem ex_forR {t : Tg} {it : It} {b : Ss} {env e2 : Ev} {st s s2 : Sto} {xs : List D} {w : Vl} (hi : evi gl cf it (hideB (brw it) (lock (lockOf it env) env)) st = some (xs, s)) (hf : forL (bindT t) (fun e1 s1 => execs gl cf W b e1 s1) xs (lock (lockOf it env) env) s = some (.rt w, e2, s2)) :
    exec gl cf W (.for' t it b) env st = some (.rt w, e2, s2) := by
  show (match evi gl cf it (hideB (brw it) (lock (lockOf it env) env)) st with
    | some (xs, s) => unlock (lockOf it env) (forL (bindT t) (fun e1 s1 => execs gl cf W b e1 s1) xs (lock (lockOf it env) env) s)
    | none => none) = _
  rw [hi]
  show unlock _ (forL _ _ _ _ _) = _
  rw [hf]
  cases lockOf it env <;> rfl
theorem o_forR {t : Tg} {it : It} {b ss : Ss} {env e2 : Ev} {st s s2 : Sto} {xs : List D} {w : Vl} (hi : evi gl cf it (hideB (brw it) (lock (lockOf it env) env)) st = some (xs, s)) (hf : forL (bindT t) (fun e1 s1 => execs gl cf W b e1 s1) xs (lock (lockOf it env) env) s = some (.rt w, e2, s2)) :
    out (execs gl cf W (.cons (.for' t it b) ss) env st) = some (w, s2) := by
  rw [exs_rt (ex_forR hi hf)]; rfl
end
/-! one sign -/
def sg (c : Nat) : D := .str ⟨#[c]⟩
theorem eq_str (x y : Str) : cmpD .eq (.str x) (.str y) = some (x == y) := by
  show (if okD (.str x) && okD (.str y) then some (PySem.PyData.eqv (.str x) (.str y)) else none) = _
  rw [ok_str, ok_str, if_pos (show (true && true) = true from rfl)]
  simp [PySem.PyData.eqv]
theorem sg_beq (c d : Nat) : ((⟨#[c]⟩ : Str) == ⟨#[d]⟩) = (c == d) := by
  by_cases h : c = d
  · subst h; simp
  · rw [show (c == d) = false by simpa using h]
    refine beq_eq_false_iff_ne.mpr fun e => h ?_
    injection e with e
    injection e with e
    injection e
theorem eq_sg (c d : Nat) : cmpD .eq (sg c) (sg d) = some (c == d) := by
  unfold sg
  rw [eq_str, sg_beq]
theorem eqv_sg (c d : Nat) : PySem.PyData.eqv (sg c) (sg d) = (c == d) := by
  unfold sg
  simp only [PySem.PyData.eqv]
  exact sg_beq c d
theorem in_sgs (c : Nat) (l : List Nat) : inD (sg c) (.list (l.map sg)) = some (l.contains c) ∧ inD (sg c) (.tuple (l.map sg)) = some (l.contains c) := by
  have e1 : okD (sg c) = true := ok_str _
  have e2 : PySem.PyData.plainAll (l.map sg) = true := by
    induction l with
    | nil => rfl
    | cons x l ih => rw [List.map_cons]; simp only [sg, PySem.PyData.plainAll, PySem.PyData.plain, Bool.true_and]; exact ih
  have e3 : ((l.map sg).any fun y => PySem.PyData.eqv y (sg c)) = l.contains c := by
    induction l with
    | nil => rfl
    | cons x l ih =>
      have h2 : PySem.PyData.plainAll (l.map sg) = true := by
        rw [List.map_cons] at e2
        simp only [sg, PySem.PyData.plainAll, PySem.PyData.plain, Bool.true_and] at e2
        exact e2
      rw [List.map_cons, List.any_cons, eqv_sg, ih h2, List.contains_cons]
      congr 1
      exact Bool.beq_comm
  constructor
  · show (if (okD (sg c) && PySem.PyData.plainAll (l.map sg)) = true then some ((l.map sg).any fun y => PySem.PyData.eqv y (sg c)) else none) = _
    rw [e1, e2, if_pos (show (true && true) = true from rfl), e3]
  · show (if (okD (sg c) && PySem.PyData.plainAll (l.map sg)) = true then some ((l.map sg).any fun y => PySem.PyData.eqv y (sg c)) else none) = _
    rw [e1, e2, if_pos (show (true && true) = true from rfl), e3]
end Pi
namespace Pi
open PySem
section
variable {gl : Nat → Option D} {cf : Cf} {W : Nat}
theorem ev_andB {a b : E} {env : Ev} {st : Sto} {k l : Bool} (h : ev gl cf a env st = some (.d (.bool k), st)) (g : k = true → ev gl cf b env st = some (.d (.bool l), st)) : ev gl cf (.and a b) env st = some (.d (.bool (k && l)), st) := by
  show bnd (toD (ev gl cf a env st)) (fun x s => bnd (ret (truD x) s) fun k s => if k then ev gl cf b env s else some (Vl.d x, s)) = _
  rw [toD_E h rfl, bnd_some]
  show (if k = true then _ else _) = _
  cases k with
  | true => rw [if_pos (Eq.refl _), g rfl]; rfl
  | false => rfl
theorem ev_orB {a b : E} {env : Ev} {st : Sto} {k l : Bool} (h : ev gl cf a env st = some (.d (.bool k), st)) (g : k = false → ev gl cf b env st = some (.d (.bool l), st)) : ev gl cf (.or a b) env st = some (.d (.bool (k || l)), st) := by
  cases k with
  | true => exact ev_or1 h rfl rfl
  | false => exact ev_or2 h rfl rfl (g rfl)
theorem ev_isN {a : E} {env : Ev} {st s : Sto} {x : D} (h : bor a (ev gl cf a env st) env st = some (x, s)) : ev gl cf (.isN a) env st = some (.d (.bool (isNone x)), s) := by
  show bnd (bor a (ev gl cf a env st) env st) (fun x s => some (Vl.d (.bool (match x with | .none => true | _ => false)), s)) = _
  rw [h, bnd_some]
  cases x <;> rfl
theorem ev_isnN {a : E} {env : Ev} {st s : Sto} {x : D} (h : bor a (ev gl cf a env st) env st = some (x, s)) : ev gl cf (.isnN a) env st = some (.d (.bool (!isNone x)), s) := by
  show bnd (bor a (ev gl cf a env st) env st) (fun x s => some (Vl.d (.bool (match x with | .none => false | _ => true)), s)) = _
  rw [h, bnd_some]
  cases x <;> rfl
end
theorem any_bools {α : Type} (p : α → Bool) (l : List α) : f1D .any (.list (l.map fun c => .bool (p c))) = some (.d (.bool (l.any p))) := by
  show (boolsD (l.map fun c => .bool (p c))).map (fun bs => Vl.d (.bool (bs.any id))) = _
  rw [boolsD_map]
  simp [List.any_map]
theorem all_bools {α : Type} (p : α → Bool) (l : List α) : f1D .all (.list (l.map fun c => .bool (p c))) = some (.d (.bool (l.all p))) := by
  show (boolsD (l.map fun c => .bool (p c))).map (fun bs => Vl.d (.bool (bs.all id))) = _
  rw [boolsD_map]
  simp [List.all_map]
end Pi

end
section
set_option Elab.async false
set_option linter.all false
set_option maxRecDepth 100000
set_option maxHeartbeats 4000000
namespace Pi
open PySem
/-! ### rules in the shape that a search by the head of the tree uses -/
section
variable {gl : Nat → Option D} {cf : Cf} {W : Nat}
theorem evi_enmQ {a : E} {env : Ev} {st s : Sto} {x : D} {xs ys : List D} (h : bor a (ev gl cf a env st) env st = some (x, s)) (hx : items x = some xs) (hy : enumD 0 xs = ys) : evi gl cf (.enm a) env st = some (ys, s) := by
  show bnd (bor a (ev gl cf a env st) env st) (fun x s => ret ((items x).map (enumD 0)) s) = _
  rw [h, bnd_some, hx, ← hy]; rfl
theorem ev_rfQ {i n : Nat} {env : Ev} {st : Sto} (h : look env i = .rf n) : ev gl cf (.v i) env st = some (.rf n, st) := by
  show (match look env i with | .sh x => some (Vl.d x, st) | .rf n => some (Vl.rf n, st) | _ => none) = _
  rw [h]
theorem lcN {α : Type} {vs : List Nat} {e : E} {t : Tg} {it : It} {env : Ev} {st : Sto} {xs : List α} {a f : α → D} {E1 : α → Ev} (hi : evi gl cf it env st = some (xs.map a, st))
    (hb : ∀ x ∈ xs, bindT t (a x) (wipeE env vs) = some (E1 x)) (h : ∀ x ∈ xs, toD (ev gl cf e (E1 x) st) = some (f x, st)) (hl : xs.length ≤ SL) :
    ev gl cf (.lc vs e t it .no) env st = some (.fr (.list (xs.map f)), st) :=
  ev_lc a f hi (fun x hx => ⟨E1 x, hb x hx, rfl, h x hx⟩) hl
theorem lcY {α : Type} {vs : List Nat} {e c : E} {t : Tg} {it : It} {env : Ev} {st : Sto} {xs : List α} {a f : α → D} {p : α → Bool} {E1 : α → Ev} (hi : evi gl cf it env st = some (xs.map a, st))
    (hb : ∀ x ∈ xs, bindT t (a x) (wipeE env vs) = some (E1 x)) (hc : ∀ x ∈ xs, evc gl cf (.yes c) (E1 x) st = some (p x, st)) (h : ∀ x ∈ xs, p x = true → toD (ev gl cf e (E1 x) st) = some (f x, st)) (hl : xs.length ≤ SL) :
    ev gl cf (.lc vs e t it (.yes c)) env st = some (.fr (.list ((xs.filter p).map f)), st) :=
  ev_lcF a p f hi (fun x hx => ⟨E1 x, hb x hx, hc x hx, h x hx⟩) hl
/-- two clauses, no tests -/
theorem turns2_map {α : Type} {bd : D → Ev → Option Ev} {tt : Ev → Sto → Option (Bool × Sto)} {inn : Ev → List D → Sto → Option (List D × Sto)} {env : Ev} {st : Sto} (a : α → D) (f : α → List D) :
    ∀ (xs : List α) (acc : List D), (∀ x ∈ xs, ∀ acc : List D, acc.length + (f x).length ≤ SL → ∃ e1, bd (a x) env = some e1 ∧ tt e1 st = some (true, st) ∧ inn e1 acc st = some (acc ++ f x, st)) → acc.length + (xs.flatMap f).length ≤ SL → turns2 bd tt inn env (xs.map a) acc st = some (acc ++ xs.flatMap f, st)
  | [], acc, _, _ => by simp [turns2]
  | x :: xs, acc, h, hl => by
    rw [List.flatMap_cons, List.length_append] at hl
    obtain ⟨e1, h1, h2, h3⟩ := h x List.mem_cons_self acc (by omega)
    rw [List.map_cons]
    unfold turns2
    simp only [h1, h2, h3, bnd_some]
    rw [if_pos trivial, turns2_map a f xs (acc ++ f x) (fun y hy => h y (List.mem_cons_of_mem _ hy)) (by rw [List.length_append]; omega), List.flatMap_cons]
    simp
theorem turns_app {α : Type} {bd : D → Ev → Option Ev} {tt : Ev → Sto → Option (Bool × Sto)} {el : Ev → Sto → Option (D × Sto)} {env : Ev} {st : Sto} {xs : List α} {a f : α → D} {p : α → Bool} {acc : List D} (h : ∀ x ∈ xs, ∃ e1, bd (a x) env = some e1 ∧ tt e1 st = some (p x, st) ∧ (p x = true → el e1 st = some (f x, st))) (hl : acc.length + ((xs.filter p).map f).length ≤ SL) :
    turns bd tt el env (xs.map a) acc st = some (acc ++ (xs.filter p).map f, st) := by
  induction xs generalizing acc with
  | nil => simp [turns]
  | cons x xs ih =>
    obtain ⟨e1, h1, h2, h3⟩ := h x List.mem_cons_self
    rw [List.map_cons]
    unfold turns
    simp only [h1, h2, bnd_some]
    cases hp : p x with
    | true =>
      rw [List.filter_cons_of_pos hp, List.map_cons, List.length_cons] at hl
      simp only [h3 hp, bnd_some]
      rw [if_pos trivial, if_pos (by omega), ih (fun y hy => h y (List.mem_cons_of_mem _ hy)) (by rw [List.length_append, List.length_singleton]; omega), List.filter_cons_of_pos hp]
      simp
    | false =>
      rw [List.filter_cons_of_neg (by simp [hp])] at hl
      rw [if_neg (by simp), ih (fun y hy => h y (List.mem_cons_of_mem _ hy)) (by omega), List.filter_cons_of_neg (by simp [hp])]
theorem len_pairs {α : Type} (f g : α → D) : ∀ xs : List α, (xs.flatMap fun x => [f x, g x]).length = 2 * xs.length
  | [] => rfl
  | x :: xs => by rw [List.flatMap_cons, List.length_append, len_pairs f g xs, List.length_cons, List.length_cons, List.length_cons, List.length_nil]; omega
/-- two clauses: the inner one over a written display of two -/
theorem lc2_pair {α : Type} {vs ws : List Nat} {e1 e2 : E} {t : Tg} {j : Nat} {it : It} {env : Ev} {st : Sto} {xs : List α} {a f g : α → D} {E1 : α → Ev} (hi : evi gl cf it env st = some (xs.map a, st))
    (hb : ∀ x ∈ xs, bindT t (a x) (wipeE env vs) = some (E1 x)) (h1 : ∀ x ∈ xs, toD (ev gl cf e1 (E1 x) st) = some (f x, st)) (h2 : ∀ x ∈ xs, toD (ev gl cf e2 (E1 x) st) = some (g x, st)) (hj : ∀ x ∈ xs, j < (wipeE (E1 x) ws).length) (hl : 2 * xs.length ≤ SL) :
    ev gl cf (.lc2 vs ws (.v j) t it .no (.n j) (.of (.tup (.cons e1 (.cons e2 .nil)))) .no) env st = some (.fr (.list (xs.flatMap fun x => [f x, g x])), st) := by
  show bnd (evi gl cf it env st) (fun xs s => bnd (turns2 (bindT t) (fun e1 s1 => evc gl cf .no e1 s1)
        (fun e1' acc s1 => bnd (evi gl cf (.of (.tup (.cons e1 (.cons e2 .nil)))) e1' s1) fun zs s2 => turns (bindT (.n j)) (fun e2 s3 => evc gl cf .no e2 s3) (fun e2 s3 => toD (ev gl cf (.v j) e2 s3)) (wipeE e1' ws) zs acc s2) (wipeE env vs) xs [] s) fun ys s' => some (Vl.fr (.list ys), s')) = _
  rw [hi, bnd_some, turns2_map a (fun x => [f x, g x]) xs [] ?key (by rw [len_pairs]; simpa using hl), bnd_some]
  · rfl
  intro x hx acc ha
  refine ⟨E1 x, hb x hx, rfl, ?_⟩
  show bnd (evi gl cf (.of (.tup (.cons e1 (.cons e2 .nil)))) (E1 x) st) _ = _
  rw [evi_of (bor_E rfl (ev_tup (evs_cons (h1 x hx) (evs_cons (h2 x hx) evs_nil)) (by decide : (2 : Nat) ≤ SL)) rfl) rfl, bnd_some]
  have hb2 : ∀ d : D, bindT (.n j) d (wipeE (E1 x) ws) = some ((wipeE (E1 x) ws).set j (.sh d)) := fun d => if_pos (hj x hx)
  have hv : ∀ d : D, toD (ev gl cf (.v j) ((wipeE (E1 x) ws).set j (.sh d)) st) = some (d, st) := fun d => toD_E (ev_sh (by
    unfold look
    rw [List.getD_eq_getElem?_getD, List.getElem?_set_self (hj x hx)]; rfl)) rfl
  have := turns_app (bd := bindT (.n j)) (tt := fun e2 s3 => evc gl cf .no e2 s3) (el := fun e2 s3 => toD (ev gl cf (.v j) e2 s3)) (env := wipeE (E1 x) ws) (st := st) (xs := [f x, g x]) (a := id) (f := id) (p := fun _ => true) (acc := acc)
    (fun d _ => ⟨_, hb2 d, rfl, fun _ => hv d⟩) (by simpa using ha)
  simpa using this
theorem iteT {c a b : E} {env : Ev} {st s : Sto} {x : D} {r : Option (Vl × Sto)} (h : bor c (ev gl cf c env st) env st = some (x, s)) (hk : truD x = some true) (g : ev gl cf a env s = r) : ev gl cf (.ite c a b) env st = r := ev_ite h hk (by rw [if_pos (Eq.refl _)]; exact g)
theorem iteF {c a b : E} {env : Ev} {st s : Sto} {x : D} {r : Option (Vl × Sto)} (h : bor c (ev gl cf c env st) env st = some (x, s)) (hk : truD x = some false) (g : ev gl cf b env s = r) : ev gl cf (.ite c a b) env st = r := ev_ite h hk (by rw [if_neg Bool.false_ne_true]; exact g)
theorem iteB {c a b : E} {env : Ev} {st s : Sto} {x : D} {k : Bool} {u v : Vl} (h : bor c (ev gl cf c env st) env st = some (x, s)) (hk : truD x = some k) (g1 : k = true → ev gl cf a env s = some (u, s)) (g2 : k = false → ev gl cf b env s = some (v, s)) : ev gl cf (.ite c a b) env st = some (if k = true then u else v, s) := ev_ite h hk (by
  cases k with
  | true => rw [if_pos (Eq.refl _), if_pos (Eq.refl _)]; exact g1 rfl
  | false => rw [if_neg Bool.false_ne_true, if_neg Bool.false_ne_true]; exact g2 rfl)
theorem ev_andF {a b : E} {env : Ev} {st s : Sto} {x : D} (h : toD (ev gl cf a env st) = some (x, s)) (hk : truD x = some false) : ev gl cf (.and a b) env st = some (.d x, s) := by
  show bnd (toD (ev gl cf a env st)) (fun x s => bnd (ret (truD x) s) fun k s => if k then ev gl cf b env s else some (Vl.d x, s)) = _
  rw [h, bnd_some, hk, ret_some, bnd_some, if_neg Bool.false_ne_true]
theorem ev_dnew {t : Bool} {env : Ev} {st : Sto} : ev gl cf (.dnew t) env st = some (.fr (.dict (if t then [(.tuple [], .none)] else [])), st) := rfl
theorem ev_dget2 {a k d : E} {env : Ev} {st s s1 s2 : Sto} {x y z : D} {r : Vl} (h : bor a (ev gl cf a env st) env st = some (x, s)) (g : bor k (ev gl cf k env s) env s = some (y, s1)) (g2 : toD (ev gl cf d env s1) = some (z, s2)) (hf : getD2 x y z = some r) : ev gl cf (.dget2 a k d) env st = some (r, s2) := by
  show bnd (bor a (ev gl cf a env st) env st) (fun x s => bnd (bor k (ev gl cf k env s) env s) fun y s1 => bnd (toD (ev gl cf d env s1)) fun z s2 => ret (getD2 x y z) s2) = _
  rw [h, bnd_some, g, bnd_some, g2, bnd_some, hf]; rfl
theorem ex_dputT {i : Nat} {ks : Es} {e : E} {env : Ev} {st s s1 : Sto} {y : D} {zs : List D} {ds es : List (D × D)} (h : toD (ev gl cf e env st) = some (y, s)) (hk : evs gl cf ks env s = some (zs, s1)) (hl : look env i = .ow (.dict ds)) (hz : (tkeyD (.tuple zs) && decide (ds.length < SL) && decide (zs.length ≤ SL)) = true) (hd : dents (.tuple zs) ds = some es) :
    exec gl cf W (.dputT i ks e) env st = some (.nx, env.set i (.ow (.dict ((.tuple [], .none) :: dput (.tuple zs) y es))), s1) := by
  show (match toD (ev gl cf e env st) with
    | some (y, s) => (match evs gl cf ks env s with
      | some (zs, s1) => (match look env i with
        | .ow (.dict ds) => if (tkeyD (.tuple zs) && decide (ds.length < SL) && decide (zs.length ≤ SL)) = true then (dents (.tuple zs) ds).map fun es => (Fl.nx, env.set i (.ow (.dict ((.tuple [], .none) :: dput (.tuple zs) y es))), s1) else none
        | _ => none)
      | none => none)
    | none => none) = _
  rw [h]
  show (match evs gl cf ks env s with
      | some (zs, s1) => (match look env i with
        | .ow (.dict ds) => if (tkeyD (.tuple zs) && decide (ds.length < SL) && decide (zs.length ≤ SL)) = true then (dents (.tuple zs) ds).map fun es => (Fl.nx, env.set i (.ow (.dict ((.tuple [], .none) :: dput (.tuple zs) y es))), s1) else none
        | _ => none)
      | none => none) = _
  rw [hk]
  show (match look env i with
        | .ow (.dict ds) => if (tkeyD (.tuple zs) && decide (ds.length < SL) && decide (zs.length ≤ SL)) = true then (dents (.tuple zs) ds).map fun es => (Fl.nx, env.set i (.ow (.dict ((.tuple [], .none) :: dput (.tuple zs) y es))), s1) else none
        | _ => none) = _
  rw [hl]
  show (if _ then _ else _) = _
  rw [if_pos hz, hd]; rfl
theorem ex_par {i j : Nat} {oi oj : Bool} {e f : E} {env : Ev} {st s s2 : Sto} {w u : Vl} {a b : Slot} (h : ev gl cf e env st = some (w, s)) (g : ev gl cf f env s = some (u, s2)) (ha : slotP oi w = some a) (hb : slotP oj u = some b) (hc : i ≠ j ∧ i < env.length ∧ j < env.length) :
    exec gl cf W (.par i oi e j oj f) env st = some (.nx, (env.set i a).set j b, s2) := by
  show (match ev gl cf e env st with
    | some (w, s) => (match ev gl cf f env s with
      | some (u, s2) => (match slotP oi w, slotP oj u with
        | some a, some b => if i ≠ j ∧ i < env.length ∧ j < env.length then some (Fl.nx, (env.set i a).set j b, s2) else none
        | _, _ => none)
      | none => none)
    | none => none) = _
  rw [h]
  show (match ev gl cf f env s with
      | some (u, s2) => (match slotP oi w, slotP oj u with
        | some a, some b => if i ≠ j ∧ i < env.length ∧ j < env.length then some (Fl.nx, (env.set i a).set j b, s2) else none
        | _, _ => none)
      | none => none) = _
  rw [g]
  show (match slotP oi w, slotP oj u with
        | some a, some b => if i ≠ j ∧ i < env.length ∧ j < env.length then some (Fl.nx, (env.set i a).set j b, s2) else none
        | _, _ => none) = _
  rw [ha, hb]
  exact if_pos hc
theorem ex_apop {i j m : Nat} {k : E} {n : Int} {env : Ev} {st s : Sto} {y : D} {xs ys : List D} (hk : bor k (ev gl cf k env st) env st = some (.int n, s)) (hi : look env i = .ow (.list xs)) (hj : look env j = .ow (.list ys))
    (hc : i ≠ j ∧ xs.length < SL ∧ -(2 ^ 62) ≤ n ∧ n < 2 ^ 62) (hm : L2.ixN ys.length n = some m) (hy : ys[m]? = some y) : exec gl cf W (.apop i j k) env st = some (.nx, (env.set j (.ow (.list (ys.eraseIdx m)))).set i (.ow (.list (xs ++ [y]))), s) := by
  show (match bor k (ev gl cf k env st) env st with
    | some (kx, s) => (match look env i, look env j, kx with
      | .ow (.list xs), .ow (.list ys), .int n => if i ≠ j ∧ xs.length < SL ∧ -(2 ^ 62) ≤ n ∧ n < 2 ^ 62 then (L2.ixN ys.length n).bind fun m => (ys[m]?).bind fun y =>
          some (Fl.nx, (env.set j (.ow (.list (ys.eraseIdx m)))).set i (Slot.ow (.list (xs ++ [y]))), s) else none
      | _, _, _ => none)
    | none => none) = _
  rw [hk]
  show (match look env i, look env j, PyData.int n with
      | .ow (.list xs), .ow (.list ys), .int n => if i ≠ j ∧ xs.length < SL ∧ -(2 ^ 62) ≤ n ∧ n < 2 ^ 62 then (L2.ixN ys.length n).bind fun m => (ys[m]?).bind fun y =>
          some (Fl.nx, (env.set j (.ow (.list (ys.eraseIdx m)))).set i (Slot.ow (.list (xs ++ [y]))), s) else none
      | _, _, _ => none) = _
  rw [hi, hj]
  show (if _ then _ else _) = _
  rw [if_pos hc, hm]
  show (ys[m]?).bind _ = _
  rw [hy]; rfl
/-- a loop as a fold: the frame is a function of a state -/
theorem forL_fold {α σ : Type} {bd : D → Ev → Option Ev} {body : Ev → Sto → SR} {st : Sto} (a : α → D) (F : σ → Ev) (step : σ → α → σ) (P : σ → Prop) :
    ∀ (xs : List α), (∀ s, ∀ x ∈ xs, P s → P (step s x) ∧ ∃ e1, bd (a x) (F s) = some e1 ∧ body e1 st = some (.nx, F (step s x), st)) →
      ∀ s, P s → forL bd body (xs.map a) (F s) st = some (.nx, F (xs.foldl step s), st) ∧ P (xs.foldl step s)
  | [], _, s, hp => ⟨rfl, hp⟩
  | x :: xs, h, s, hp => by
    obtain ⟨h0, e1, h1, h2⟩ := h s x List.mem_cons_self hp
    obtain ⟨h3, h4⟩ := forL_fold a F step P xs (fun s y hy => h s y (List.mem_cons_of_mem _ hy)) (step s x) h0
    refine ⟨?_, h4⟩
    rw [List.map_cons]
    unfold forL
    simp only [h1, h2]
    exact h3
end
end Pi

end
section
set_option Elab.async false
set_option linter.all false
set_option maxRecDepth 100000
set_option maxHeartbeats 4000000
namespace Pi
open PySem
section
variable {gl : Nat → Option D} {cf : Cf} {W : Nat}
theorem ev_idx {a b : E} {env : Ev} {st s s2 : Sto} {x y : D} {r : Vl} (h : bor a (ev gl cf a env st) env st = some (x, s)) (g : bor b (ev gl cf b env s) env s = some (y, s2)) (hf : idxD x y = some r) : ev gl cf (.idx a b) env st = some (r, s2) := by
  show bnd (bor a (ev gl cf a env st) env st) (fun x s => bnd (bor b (ev gl cf b env s) env s) fun y s' => ret (idxD x y) s') = _
  rw [h, bnd_some, g, bnd_some, hf]; rfl
theorem ev_dzip {a b : E} {env : Ev} {st s s2 : Sto} {x y : D} {r : Vl} (h : bor a (ev gl cf a env st) env st = some (x, s)) (g : bor b (ev gl cf b env s) env s = some (y, s2)) (hf : dzipD x y = some r) : ev gl cf (.dzip a b) env st = some (r, s2) := by
  show bnd (bor a (ev gl cf a env st) env st) (fun x s => bnd (bor b (ev gl cf b env s) env s) fun y s' => ret (dzipD x y) s') = _
  rw [h, bnd_some, g, bnd_some, hf]; rfl
theorem ev_rep {a b : E} {env : Ev} {st s s2 : Sto} {xs : List D} {k : Int} (h : ev gl cf a env st = some (.fr (.list xs), s)) (g : bor b (ev gl cf b env s) env s = some (.int k, s2)) (hk : -(2 ^ 62) ≤ k ∧ k < 2 ^ 62 ∧ xs.length * k.toNat ≤ SL) :
    ev gl cf (.rep a b) env st = some (.fr (.list (repD xs k)), s2) := by
  show bnd (ev gl cf a env st) (fun w s => bnd (bor b (ev gl cf b env s) env s) fun y s' => (match w, y with
    | .fr (.list xs), .int k => if decide (-(2 ^ 62) ≤ k ∧ k < 2 ^ 62 ∧ xs.length * k.toNat ≤ SL) then some (Vl.fr (.list (repD xs k)), s') else none
    | _, _ => none)) = _
  rw [h, bnd_some, g, bnd_some]
  show (if decide (-(2 ^ 62) ≤ k ∧ k < 2 ^ 62 ∧ xs.length * k.toNat ≤ SL) = true then _ else none) = _
  rw [if_pos (decide_eq_true hk)]
theorem ex_iteL {is : List Nat} {c : E} {a b : Ss} {env e1 : Ev} {st s : Sto} {k : Bool} {r : SR} (hf : freeze env is = some e1) (h : tru (bor c (ev gl cf c e1 st) e1 st) = some (k, s)) (hs : scalS s = true)
    (g : (if k then execs gl cf W a env s else execs gl cf W b env s) = r) : exec gl cf W (.iteL is c a b) env st = r := by
  show (match freeze env is with
    | some e1 => (match tru (bor c (ev gl cf c e1 st) e1 st) with
      | some (true, s) => if scalS s = true then execs gl cf W a env s else none
      | some (false, s) => if scalS s = true then execs gl cf W b env s else none
      | none => none)
    | none => none) = _
  rw [hf]
  show (match tru (bor c (ev gl cf c e1 st) e1 st) with
      | some (true, s) => if scalS s = true then execs gl cf W a env s else none
      | some (false, s) => if scalS s = true then execs gl cf W b env s else none
      | none => none) = _
  rw [h]
  cases k with
  | true =>
    show (if scalS s = true then _ else none) = _
    rw [if_pos hs]; exact g
  | false =>
    show (if scalS s = true then _ else none) = _
    rw [if_pos hs]; exact g
theorem ex_parS {ts : List (Nat × Option E)} {es : Es} {env e1 : Ev} {st s s1 : Sto} {xs : List D} (h : evs gl cf es env st = some (xs, s)) (hp : putAll (fun k e1 s1 => bor k (ev gl cf k e1 s1) e1 s1) ts xs env s = some (e1, s1)) :
    exec gl cf W (.parS ts es) env st = some (.nx, e1, s1) := by
  show (match evs gl cf es env st with
    | some (xs, s) => (putAll (fun k e1 s1 => bor k (ev gl cf k e1 s1) e1 s1) ts xs env s).map fun (p : Ev × Sto) => (Fl.nx, p.1, p.2)
    | none => none) = _
  rw [h]
  show (putAll (fun k e1 s1 => bor k (ev gl cf k e1 s1) e1 s1) ts xs env s).map _ = _
  rw [hp]; rfl
theorem put_ix {kf : E → Ev → Sto → Option (D × Sto)} {i : Nat} {k : E} {ts : List (Nat × Option E)} {x kx : D} {xs ys zs : List D} {env : Ev} {st s1 : Sto} {r : Option (Ev × Sto)} (hk : kf k env st = some (kx, s1)) (hl : look env i = .ow (.list ys)) (hs : setNth ys kx x = some zs)
    (g : putAll kf ts xs (env.set i (.ow (.list zs))) s1 = r) : putAll kf ((i, some k) :: ts) (x :: xs) env st = r := by
  show bnd (kf k env st) (fun kx s1 => (putAt env i kx x s1).bind fun (p : Ev × Sto) => putAll kf ts xs p.1 p.2) = _
  rw [hk, bnd_some]
  unfold putAt
  rw [hl]
  show ((setNth ys kx x).map fun zs => (env.set i (.ow (.list zs)), s1)).bind (fun p : Ev × Sto => putAll kf ts xs p.1 p.2) = _
  rw [hs]; exact g
theorem put_nm {kf : E → Ev → Sto → Option (D × Sto)} {i : Nat} {ts : List (Nat × Option E)} {x : D} {xs : List D} {env : Ev} {st : Sto} {r : Option (Ev × Sto)} (hi : i < env.length) (g : putAll kf ts xs (env.set i (.sh x)) st = r) : putAll kf ((i, none) :: ts) (x :: xs) env st = r := by
  show (if i < env.length then putAll kf ts xs (env.set i (.sh x)) st else none) = _
  rw [if_pos hi]; exact g
/-- one turn of a while loop -/
theorem whL_turn {tt : Ev → Sto → Option (Bool × Sto)} {body : Ev → Sto → SR} {n : Nat} {env e2 : Ev} {st s1 s2 : Sto} (h : tt env st = some (true, s1)) (g : body env s1 = some (.nx, e2, s2)) : whL tt body (n + 1) env st = whL tt body n e2 s2 := by
  show (match tt env st with
    | none => none
    | some (false, s1) => some (Fl.nx, env, s1)
    | some (true, s1) => match body env s1 with
      | some (.nx, e2, s2) => whL tt body n e2 s2
      | some (.ct, e2, s2) => whL tt body n e2 s2
      | some (.bk, e2, s2) => some (.nx, e2, s2)
      | some (.rt w, e2, s2) => some (.rt w, e2, s2)
      | none => none) = _
  rw [h]
  show (match body env s1 with
      | some (.nx, e2, s2) => whL tt body n e2 s2
      | some (.ct, e2, s2) => whL tt body n e2 s2
      | some (.bk, e2, s2) => some (Fl.nx, e2, s2)
      | some (.rt w, e2, s2) => some (.rt w, e2, s2)
      | none => none) = _
  rw [g]
theorem whL_rt {tt : Ev → Sto → Option (Bool × Sto)} {body : Ev → Sto → SR} {n : Nat} {env e2 : Ev} {st s1 s2 : Sto} {w : Vl} (h : tt env st = some (true, s1)) (g : body env s1 = some (.rt w, e2, s2)) : whL tt body (n + 1) env st = some (.rt w, e2, s2) := by
  show (match tt env st with
    | none => none
    | some (false, s1) => some (Fl.nx, env, s1)
    | some (true, s1) => match body env s1 with
      | some (.nx, e2, s2) => whL tt body n e2 s2
      | some (.ct, e2, s2) => whL tt body n e2 s2
      | some (.bk, e2, s2) => some (.nx, e2, s2)
      | some (.rt w, e2, s2) => some (.rt w, e2, s2)
      | none => none) = _
  rw [h]
  show (match body env s1 with
      | some (.nx, e2, s2) => whL tt body n e2 s2
      | some (.ct, e2, s2) => whL tt body n e2 s2
      | some (.bk, e2, s2) => some (Fl.nx, e2, s2)
      | some (.rt w, e2, s2) => some (.rt w, e2, s2)
      | none => none) = _
  rw [g]
theorem whL_end {tt : Ev → Sto → Option (Bool × Sto)} {body : Ev → Sto → SR} {n : Nat} {env : Ev} {st s1 : Sto} (h : tt env st = some (false, s1)) : whL tt body (n + 1) env st = some (.nx, env, s1) := by
  show (match tt env st with
    | none => none
    | some (false, s1) => some (Fl.nx, env, s1)
    | some (true, s1) => match body env s1 with
      | some (.nx, e2, s2) => whL tt body n e2 s2
      | some (.ct, e2, s2) => whL tt body n e2 s2
      | some (.bk, e2, s2) => some (.nx, e2, s2)
      | some (.rt w, e2, s2) => some (.rt w, e2, s2)
      | none => none) = _
  rw [h]
theorem strsD_map : ∀ l : List Str, strsD (l.map PyData.str) = some l
  | [] => rfl
  | x :: l => by
    show (strsD (l.map PyData.str)).map (x :: ·) = _
    rw [strsD_map l]; rfl
end
end Pi

end
section
set_option Elab.async false
set_option linter.all false
set_option maxRecDepth 100000
namespace Law
open PySem PySem.Spec PyProof.Rows L2 Pi
/-! the program as trees: printed by gen.py -/
def tp (i : Nat) : Stmt := PySem.Challenge.pw_splitrules_k41_vectors_told.main.body.getD i (.Pass ⟨0, 0, 0, 0⟩)
def b0 : Ss := (.cons (.ret (.and (.isi (.v 0) [.int]) (.not (.isi (.v 0) [.bool])))) .nil)
def f0 : Fn := ⟨1, 1, b0⟩
def e0 : Ent := ⟨"is_number", ["value"], ["value"], tp 1⟩
def b1 : Ss := (.cons (.ret (.and (.call 0 (.cons (.v 0) .nil)) (.cmp .ge (.v 0) (.int 0)))) .nil)
def f1 : Fn := ⟨1, 1, b1⟩
def e1 : Ent := ⟨"is_count", ["value"], ["value"], tp 2⟩
def b2 : Ss := (.cons (.ret (.f1 .tuple (.f1 .sset (.v 0)))) .nil)
def f2 : Fn := ⟨1, 1, b2⟩
def e2 : Ent := ⟨"set_of", ["some"], ["some"], tp 3⟩
def b3 : Ss := (.cons (.ret (.ite (.isi (.v 0) [.list, .tuple]) (.f1 .tuple (.lc [1] (.call 3 (.cons (.v 1) .nil)) (.n 1) (.of (.v 0)) .no)) (.v 0))) .nil)
def f3 : Fn := ⟨1, 2, b3⟩
def e3 : Ent := ⟨"tupled", ["value"], ["value", "part"], tp 4⟩
def b4 : Ss := (.cons (.ret (.call 2 (.cons (.lc2 [1, 2] [2] (.v 2) (.n 1) (.of (.v 0)) .no (.n 2) (.of (.tup (.cons (.ix (.v 1) (.int 0)) (.cons (.ix (.v 1) (.int 2)) .nil)))) .no) .nil))) .nil)
def f4 : Fn := ⟨1, 3, b4⟩
def e4 : Ent := ⟨"standings", ["web"], ["web", "line", "name"], tp 6⟩
def b5 : Ss := (.cons (.asg (.n 1) (.call 4 (.cons (.v 0) .nil))) (.cons (.ret (.lc [2] (.lc [3] (.idx (.v 1) (.ix (.v 3) (.neg (.int 1)))) (.n 3) (.of (.v 0)) (.yes (.cmp .eq (.ix (.v 3) (.int 0)) (.v 2)))) (.n 2) (.of (.v 1)) .no)) .nil))
def f5 : Fn := ⟨1, 4, b5⟩
def e5 : Ent := ⟨"ends_from", ["web"], ["web", "names", "name", "line"], tp 8⟩
def b6 : Ss := (.cons (.ret (.f1 .all (.lc [3, 4] (.cmp .ge (.f1 .sum (.lc [5] (.ix (.v 2) (.v 5)) (.n 5) (.of (.v 3)) .no)) (.bin .mul (.v 1) (.v 4))) (.t (.cons (.n 3) (.cons (.n 4) .nil))) (.zip (.v 0) (.v 2)) .no))) .nil)
def f6 : Fn := ⟨3, 6, b6⟩
def e6 : Ent := ⟨"is_carried", ["ends", "n", "numbers"], ["ends", "n", "numbers", "own", "number", "end"], tp 9⟩
def b7 : Ss := (.cons (.ite (.or (.not (.isi (.v 0) [.tuple])) (.or (.cmp .ne (.f1 .len (.v 0)) (.v 1)) (.not (.f1 .all (.lc [2] (.call 1 (.cons (.v 2) .nil)) (.n 2) (.of (.v 0)) .no))))) (.cons (.ret (.bl false)) .nil) .nil) (.cons (.ret (.f1 .any (.lc [2] (.cmp .gt (.v 2) (.int 0)) (.n 2) (.of (.v 0)) .no))) .nil))
def f7 : Fn := ⟨2, 3, b7⟩
def e7 : Ent := ⟨"are_counts", ["thing", "many"], ["thing", "many", "number"], tp 10⟩
def b8 : Ss := (.cons (.asg (.n 3) (.call 5 (.cons (.v 0) .nil))) (.cons (.ret (.and (.call 7 (.cons (.v 2) (.cons (.f1 .len (.v 3)) .nil))) (.call 6 (.cons (.v 3) (.cons (.v 1) (.cons (.v 2) .nil)))))) .nil))
def f8 : Fn := ⟨3, 4, b8⟩
def e8 : Ent := ⟨"is_vector", ["web", "n", "thing"], ["web", "n", "thing", "ends"], tp 11⟩
def b9 : Ss := (.cons (.ret (.f1 .tuple (.lc [2, 3] (.f2 .max (.v 2) (.v 3)) (.t (.cons (.n 2) (.cons (.n 3) .nil))) (.zip (.call 3 (.cons (.v 0) .nil)) (.call 3 (.cons (.v 1) .nil))) .no))) .nil)
def f9 : Fn := ⟨2, 4, b9⟩
def e9 : Ent := ⟨"joined_vector", ["one", "other"], ["one", "other", "near", "far"], tp 12⟩
def b10 : Ss := (.cons (.own 2 (.lst .nil)) (.cons (.for' (.t (.cons (.n 3) (.cons (.n 4) (.cons (.n 5) .nil)))) (.of (.v 0)) (.cons (.ext 2 (.lc [6, 7, 8] (.tup (.cons (.v 3) (.cons (.bin .add (.v 4) (.v 7)) (.cons (.v 8) .nil)))) (.t (.cons (.n 6) (.cons (.n 7) (.cons (.n 8) .nil)))) (.of (.v 1)) (.yes (.cmp .eq (.v 6) (.v 5))))) .nil)) (.cons (.ret (.f1 .tuple (.v 2))) .nil)))
def f10 : Fn := ⟨2, 9, b10⟩
def e10 : Ent := ⟨"longer", ["web", "machine"], ["web", "machine", "found", "near", "word", "here", "begin", "sign", "end"], tp 14⟩
def b11 : Ss := (.cons (.asg (.n 2) (.call 3 (.cons (.v 0) .nil))) (.cons (.asg (.n 3) (.v 2)) (.cons (.for' (.n 4) (.rng1 (.bin .sub (.v 1) (.int 1))) (.cons (.asg (.n 3) (.call 10 (.cons (.v 3) (.cons (.v 2) .nil)))) .nil)) (.cons (.ret (.call 2 (.cons (.v 3) .nil))) .nil))))
def f11 : Fn := ⟨2, 5, b11⟩
def e11 : Ent := ⟨"powered", ["machine", "size"], ["machine", "size", "own", "found", "turn"], tp 15⟩
def b12 : Ss := (.cons (.asg (.n 2) (.ite (.cmp .lt (.v 1) (.f1 .len (.v 0))) (.ix (.v 0) (.v 1)) (.int 0))) (.cons (.rbox (.cons (.bin .mul (.f1 .abs (.v 2)) (.f1 .int (.cmp .ge (.f1 .abs (.v 2)) (.bin .pow (.int 10) (.int 18))))) (.cons (.bin .add (.bin .add (.bin .mod (.f1 .int (.v 2)) (.int 2305843009213693951)) (.bin .mul (.int 39373) (.v 1))) (.int 93341)) (.cons (.int 0) .nil)))) .nil))
def f12 : Fn := ⟨2, 3, b12⟩
def e12 : Ent := ⟨"_law_box", ["_law_script", "_law_k"], ["_law_script", "_law_k", "_law_cell"], tp 17⟩
def b13 : Ss := (.cons (.ite (.cmp .gt (.bx 0 (.int 0)) (.int 0)) (.cons (.asg (.n 5) (.bin .mod (.f1 .int (.bx 0 (.int 0))) (.v 1))) (.cons (.stix 0 (.int 0) (.bin .fdiv (.bx 0 (.int 0)) (.v 1))) (.cons (.ret (.v 5)) .nil))) .nil) (.cons (.stix 0 (.int 2) (.bin .add (.bx 0 (.int 2)) (.int 1))) (.cons (.asg (.n 2) (.bin .mod (.f1 .int (.bin .mul (.bin .add (.bx 0 (.int 1)) (.bin .mul (.int 48271) (.bx 0 (.int 2)))) (.bin .add (.int 39373) (.bx 0 (.int 2))))) (.int 2147483647))) (.cons (.asg (.n 3) (.bin .add (.bin .mod (.f1 .int (.v 2)) (.int 40009)) (.int 7))) (.cons (.asg (.n 4) (.bin .mod (.f1 .int (.bin .mul (.bin .add (.bin .add (.v 2) (.bx 0 (.int 2))) (.bin .fdiv (.bx 0 (.int 1)) (.int 1000003))) (.v 3))) (.int 2147483629))) (.cons (.ret (.bin .mod (.f1 .int (.bin .fdiv (.bin .mod (.f1 .int (.bin .add (.bin .mul (.v 4) (.int 48271)) (.v 2))) (.int 2147483587)) (.int 64))) (.v 1))) .nil))))))
def f13 : Fn := ⟨2, 6, b13⟩
def e13 : Ent := ⟨"_law_take", ["_law_box_here", "_law_size_so"], ["_law_box_here", "_law_size_so", "_law_once", "_law_far", "_law_twice", "_law_drawn"], tp 18⟩
def b14 : Ss := (.cons (.own 2 (.or (.f1 .list (.sl (.v 0) .no (.yes (.v 1)))) (.lst (.cons (.int 0) .nil)))) (.cons (.for' (.t (.cons (.n 3) (.cons (.n 4) .nil))) (.enm (.sl (.v 0) (.yes (.v 1)) (.yes (.int 63)))) (.cons (.asg (.n 5) (.bin .mod (.f1 .int (.v 3)) (.v 1))) (.cons (.stix 2 (.v 5) (.bin .add (.ix (.v 2) (.v 5)) (.bin .mul (.v 4) (.bin .add (.v 3) (.int 2))))) .nil))) (.cons (.reto 2) .nil)))
def f14 : Fn := ⟨2, 6, b14⟩
def e14 : Ent := ⟨"_law_cells", ["_law_script", "_law_top_so"], ["_law_script", "_law_top_so", "_law_cells_so", "_law_k", "_law_cell", "_law_at_so"], tp 19⟩
def b15 : Ss := (.cons (.ret (.ix (.v 1) (.call 13 (.cons (.v 0) (.cons (.f1 .len (.v 1)) .nil))))) .nil)
def f15 : Fn := ⟨2, 2, b15⟩
def e15 : Ent := ⟨"_law_of", ["_law_box_here", "_law_pool_so"], ["_law_box_here", "_law_pool_so"], tp 20⟩
def b16 : Ss := (.cons (.ite (.isi (.v 1) [.list, .tuple]) (.cons (.ite (.or (.cmp .ne (.isi (.v 0) [.list]) (.isi (.v 1) [.list])) (.cmp .ne (.isi (.v 0) [.tuple]) (.isi (.v 1) [.tuple]))) (.cons (.ret (.bl false)) .nil) .nil) (.cons (.ret (.and (.cmp .eq (.f1 .len (.v 0)) (.f1 .len (.v 1))) (.f1 .all (.lc [2, 3] (.call 16 (.cons (.v 2) (.cons (.v 3) .nil))) (.t (.cons (.n 2) (.cons (.n 3) .nil))) (.zip (.v 0) (.v 1)) .no)))) .nil)) .nil) (.cons (.ite (.or (.isN (.v 1)) (.isi (.v 1) [.bool, .str])) (.cons (.ret (.and (.cmp .eq (.v 0) (.v 1)) (.and (.cmp .eq (.isi (.v 0) [.bool]) (.isi (.v 1) [.bool])) (.cmp .eq (.isN (.v 0)) (.isN (.v 1)))))) .nil) .nil) (.cons (.ret (.and (.isi (.v 0) [.int]) (.and (.not (.isi (.v 0) [.bool])) (.cmp .eq (.v 0) (.v 1))))) .nil)))
def f16 : Fn := ⟨2, 4, b16⟩
def e16 : Ent := ⟨"_law_same", ["_law_got", "_law_due"], ["_law_got", "_law_due", "_law_mine", "_law_its"], tp 21⟩
def b17 : Ss := (.cons (.ret (.ite (.isi (.v 0) [.list, .tuple]) (.lc [1] (.call 17 (.cons (.v 1) .nil)) (.n 1) (.of (.v 0)) .no) (.v 0))) .nil)
def f17 : Fn := ⟨1, 2, b17⟩
def e17 : Ent := ⟨"_law_lists", ["_law_matter"], ["_law_matter", "_law_bit"], tp 22⟩
def b18 : Ss := (.cons (.asg (.t (.cons (.n 3) (.cons (.n 4) .nil))) (.tup (.cons (.sl (.lst (.cons (.str "a") (.cons (.str "b") (.cons (.str "c") (.cons (.str "zz") .nil))))) .no (.yes (.bin .add (.int 1) (.call 13 (.cons (.v 0) (.cons (.int 4) .nil)))))) (.cons (.call 15 (.cons (.v 0) (.cons (.lst (.cons (.lst (.cons (.str "0") (.cons (.str "1") (.cons (.str "z") .nil)))) (.cons (.lst (.cons (.str "00") (.cons (.str "01") (.cons (.str "0z") (.cons (.str "11") .nil))))) .nil))) .nil))) .nil)))) (.cons (.own 1 (.lst .nil)) (.cons (.for' (.n 2) (.rng1 (.bin .add (.int 1) (.call 13 (.cons (.v 0) (.cons (.int 9) .nil))))) (.cons (.app 1 (.tup (.cons (.call 15 (.cons (.v 0) (.cons (.v 3) .nil))) (.cons (.call 15 (.cons (.v 0) (.cons (.v 4) .nil))) (.cons (.call 15 (.cons (.v 0) (.cons (.v 3) .nil))) .nil))))) .nil)) (.cons (.ret (.f1 .tuple (.f1 .sset (.v 1)))) .nil))))
def f18 : Fn := ⟨1, 5, b18⟩
def e18 : Ent := ⟨"_law_web", ["_law_box_here"], ["_law_box_here", "_law_found", "_law_lap", "_law_names_so", "_law_size"], tp 23⟩
def b19 : Ss := (.cons (.asg (.n 1) (.lst .nil)) (.cons (.for' (.n 2) (.of (.v 0)) (.cons (.asg (.n 1) (.bin .add (.v 1) (.lst (.cons (.ix (.v 2) (.int 0)) (.cons (.ix (.v 2) (.int 2)) .nil))))) .nil)) (.cons (.ret (.f1 .sset (.v 1))) .nil)))
def f19 : Fn := ⟨1, 3, b19⟩
def e19 : Ent := ⟨"_law_names", ["_law_mesh"], ["_law_mesh", "_law_found", "_law_own"], tp 24⟩
def b20 : Ss := (.cons (.asg (.n 2) (.call 19 (.cons (.v 0) .nil))) (.cons (.asg (.n 3) (.dzip (.v 2) (.v 1))) (.cons (.ret (.lc [4] (.f1 .sum (.lc [5] (.ix (.v 3) (.ix (.v 5) (.int 2))) (.n 5) (.of (.v 0)) (.yes (.cmp .eq (.ix (.v 5) (.int 0)) (.v 4))))) (.n 4) (.of (.v 2)) .no)) .nil)))
def f20 : Fn := ⟨2, 6, b20⟩
def e20 : Ent := ⟨"_law_led", ["_law_mesh", "_law_marks_so"], ["_law_mesh", "_law_marks_so", "_law_names_so", "_law_spots_so", "_law_tag", "_law_own"], tp 25⟩
def b21 : Ss := (.cons (.asg (.n 0) (.tup (.cons (.tup (.cons (.str "a") (.cons (.str "0") (.cons (.str "a") .nil)))) (.cons (.tup (.cons (.str "a") (.cons (.str "1") (.cons (.str "b") .nil)))) (.cons (.tup (.cons (.str "b") (.cons (.str "0") (.cons (.str "a") .nil)))) .nil))))) (.cons (.ret (.tup (.cons (.v 0) (.cons (.call 11 (.cons (.v 0) (.cons (.int 2) .nil))) (.cons (.call 11 (.cons (.v 0) (.cons (.int 3) .nil))) (.cons (.call 11 (.cons (.v 0) (.cons (.int 4) .nil))) .nil)))))) .nil))
def f21 : Fn := ⟨0, 1, b21⟩
def e21 : Ent := ⟨"_law_gold", [], ["_law_gold_here"], tp 26⟩
def b22 : Ss := (.cons (.asg (.t (.cons (.n 7) (.cons (.n 8) (.cons (.n 9) (.cons (.n 10) .nil))))) (.call 21 .nil)) (.cons (.asg (.n 0) (.lst (.cons (.lc [11] (.call 8 (.cons (.v 8) (.cons (.int 2) (.cons (.v 11) .nil)))) (.n 11) (.of (.tup (.cons (.tup (.cons (.int 1) (.cons (.int 1) .nil))) (.cons (.tup (.cons (.int 2) (.cons (.int 1) .nil))) (.cons (.tup (.cons (.int 1) (.cons (.int 0) .nil))) (.cons (.tup (.cons (.int 0) (.cons (.int 1) .nil))) (.cons (.tup (.cons (.int 2) (.cons (.int 2) .nil))) (.cons (.tup (.cons (.int 0) (.cons (.int 0) .nil))) (.cons (.tup (.cons (.int 1) (.cons (.int 2) .nil))) .nil))))))))) .no) (.cons (.lc [11] (.call 8 (.cons (.v 9) (.cons (.int 4) (.cons (.v 11) .nil)))) (.n 11) (.of (.tup (.cons (.tup (.cons (.int 2) (.cons (.int 1) .nil))) (.cons (.tup (.cons (.int 1) (.cons (.int 1) .nil))) (.cons (.tup (.cons (.int 4) (.cons (.int 2) .nil))) (.cons (.tup (.cons (.int 3) (.cons (.int 2) .nil))) (.cons (.tup (.cons (.int 3) (.cons (.int 1) .nil))) (.cons (.tup (.cons (.int 2) (.cons (.int 0) .nil))) .nil)))))))) .no) .nil)))) (.cons (.asg (.n 1) (.lst (.cons (.lst (.cons (.bl true) (.cons (.bl true) (.cons (.bl true) (.cons (.bl false) (.cons (.bl true) (.cons (.bl false) (.cons (.bl false) .nil)))))))) (.cons (.lst (.cons (.bl true) (.cons (.bl false) (.cons (.bl true) (.cons (.bl true) (.cons (.bl false) (.cons (.bl false) .nil))))))) .nil)))) (.cons (.asg (.n 0) (.bin .add (.v 0) (.lst (.cons (.lc [11] (.call 8 (.cons (.v 10) (.cons (.int 8) (.cons (.v 11) .nil)))) (.n 11) (.of (.tup (.cons (.tup (.cons (.int 3) (.cons (.int 2) .nil))) (.cons (.tup (.cons (.int 2) (.cons (.int 1) .nil))) (.cons (.tup (.cons (.bin .pow (.int 10) (.int 20)) (.cons (.bin .sub (.bin .pow (.int 10) (.int 20)) (.int 1)) .nil))) .nil))))) .no) (.cons (.call 8 (.cons (.v 7) (.cons (.int 1) (.cons (.tup (.cons (.int 1) (.cons (.int 1) .nil))) .nil)))) (.cons (.call 8 (.cons (.v 7) (.cons (.int 2) (.cons (.tup (.cons (.int 1) (.cons (.int 1) .nil))) .nil)))) (.cons (.call 8 (.cons (.v 7) (.cons (.int 1) (.cons (.tup (.cons (.int 0) (.cons (.int 1) .nil))) .nil)))) (.cons (.call 8 (.cons (.v 7) (.cons (.int 1) (.cons (.tup (.cons (.int 1) (.cons (.int 0) .nil))) .nil)))) .nil)))))))) (.cons (.asg (.n 1) (.bin .add (.v 1) (.lst (.cons (.rep (.lst (.cons (.bl false) .nil)) (.int 3)) (.cons (.bl true) (.cons (.bl false) (.cons (.bl false) (.cons (.bl true) .nil)))))))) (.cons (.asg (.n 2) (.lst (.cons (.lst (.cons (.int 2) (.cons (.int 1) .nil))) (.cons (.tup (.cons (.int 2) .nil)) (.cons (.tup (.cons (.int 2) (.cons (.int 1) (.cons (.int 1) .nil)))) (.cons (.tup .nil) (.cons .non (.cons (.int 3) (.cons (.str "21") (.cons (.tup (.cons (.int 2) (.cons (.bl true) .nil))) (.cons (.tup (.cons (.int 2) (.cons .non .nil))) (.cons (.tup (.cons (.int 2) (.cons (.neg (.int 1)) .nil))) (.cons (.tup (.cons (.int 2) (.cons (.str "1") .nil))) (.cons (.tup (.cons (.int 2) (.cons (.tup (.cons (.int 1) .nil)) .nil))) (.cons (.tup (.cons (.tup (.cons (.int 2) (.cons (.int 1) .nil))) .nil)) (.cons (.tup (.cons (.bl true) (.cons (.bl true) .nil))) .nil)))))))))))))))) (.cons (.asg (.n 0) (.bin .add (.v 0) (.lst (.cons (.lc [11] (.call 8 (.cons (.v 9) (.cons (.int 4) (.cons (.v 11) .nil)))) (.n 11) (.of (.v 2)) .no) (.cons (.call 8 (.cons (.v 8) (.cons (.int 2) (.cons (.tup (.cons (.bl true) (.cons (.int 1) .nil))) .nil)))) .nil))))) (.cons (.asg (.n 1) (.bin .add (.v 1) (.lst (.cons (.rep (.lst (.cons (.bl false) .nil)) (.int 14)) (.cons (.bl false) .nil))))) (.cons (.asg (.n 3) (.tup (.cons (.tup (.cons (.str "a") (.cons (.str "0") (.cons (.str "a") .nil)))) (.cons (.tup (.cons (.str "a") (.cons (.str "0") (.cons (.str "b") .nil)))) (.cons (.tup (.cons (.str "b") (.cons (.str "0") (.cons (.str "c") .nil)))) (.cons (.tup (.cons (.str "d") (.cons (.str "0") (.cons (.str "d") .nil)))) .nil)))))) (.cons (.asg (.n 0) (.bin .add (.v 0) (.lst (.cons (.lc [11] (.call 8 (.cons (.v 3) (.cons (.int 1) (.cons (.v 11) .nil)))) (.n 11) (.of (.tup (.cons (.tup (.cons (.int 1) (.cons (.int 0) (.cons (.int 0) (.cons (.int 0) .nil))))) (.cons (.tup (.cons (.int 0) (.cons (.int 1) (.cons (.int 1) (.cons (.int 0) .nil))))) (.cons (.tup (.cons (.int 0) (.cons (.int 0) (.cons (.int 0) (.cons (.int 7) .nil))))) (.cons (.tup (.cons (.int 2) (.cons (.int 0) (.cons (.int 0) (.cons (.int 3) .nil))))) (.cons (.tup (.cons (.int 0) (.cons (.int 0) (.cons (.int 1) (.cons (.int 0) .nil))))) .nil))))))) .no) (.cons (.call 8 (.cons (.v 3) (.cons (.int 2) (.cons (.tup (.cons (.int 1) (.cons (.int 0) (.cons (.int 0) (.cons (.int 1) .nil))))) .nil)))) .nil))))) (.cons (.asg (.n 1) (.bin .add (.v 1) (.lst (.cons (.lst (.cons (.bl true) (.cons (.bl false) (.cons (.bl true) (.cons (.bl true) (.cons (.bl false) .nil)))))) (.cons (.bl false) .nil))))) (.cons (.asg (.n 4) (.bin .pow (.int 10) (.int 30))) (.cons (.asg (.n 5) (.f1 .tuple (.lc [12] (.tup (.cons (.ix (.str "abcdefghijkl") (.v 12)) (.cons (.str "9") (.cons (.ix (.str "abcdefghijkl") (.bin .mod (.bin .add (.v 12) (.int 1)) (.int 12))) .nil)))) (.n 12) (.rng1 (.int 12)) .no))) (.cons (.asg (.n 0) (.bin .add (.v 0) (.lst (.cons (.call 8 (.cons (.v 5) (.cons (.int 1) (.cons (.bin .mul (.tup (.cons (.v 4) .nil)) (.int 12)) .nil)))) (.cons (.call 8 (.cons (.v 5) (.cons (.int 1) (.cons (.bin .add (.bin .mul (.tup (.cons (.v 4) .nil)) (.int 11)) (.tup (.cons (.bin .sub (.v 4) (.int 1)) .nil))) .nil)))) (.cons (.call 8 (.cons (.v 5) (.cons (.int 2) (.cons (.bin .mul (.tup (.cons (.v 4) .nil)) (.int 12)) .nil)))) (.cons (.call 8 (.cons (.v 5) (.cons (.v 4) (.cons (.bin .mul (.tup (.cons (.int 1) .nil)) (.int 12)) .nil)))) (.cons (.call 8 (.cons (.tup (.cons (.tup (.cons (.str "a") (.cons (.str "0") (.cons (.str "a") .nil)))) (.cons (.tup (.cons (.str "a") (.cons (.str "1") (.cons (.str "a") .nil)))) .nil))) (.cons (.int 2) (.cons (.tup (.cons (.v 4) .nil)) .nil)))) .nil)))))))) (.cons (.asg (.n 1) (.bin .add (.v 1) (.lst (.cons (.bl true) (.cons (.bl false) (.cons (.bl false) (.cons (.bl false) (.cons (.bl true) .nil)))))))) (.cons (.asg (.n 0) (.bin .add (.v 0) (.lst (.cons (.call 9 (.cons (.tup (.cons (.int 2) (.cons (.int 1) (.cons (.int 0) .nil)))) (.cons (.tup (.cons (.int 1) (.cons (.int 1) (.cons (.int 5) .nil)))) .nil))) (.cons (.call 9 (.cons (.tup .nil) (.cons (.tup .nil) .nil))) (.cons (.callk 9 .nil (.cons (.lst (.cons (.v 4) (.cons (.int 0) .nil))) (.cons (.lst (.cons (.int 0) (.cons (.int 3) .nil))) .nil)) [1, 0]) (.cons (.callk 8 .nil (.cons (.tup (.cons (.int 2) (.cons (.int 1) .nil))) (.cons (.int 4) (.cons (.v 9) .nil))) [2, 1, 0]) (.cons (.call 8 (.cons (.call 17 (.cons (.v 9) .nil)) (.cons (.int 4) (.cons (.tup (.cons (.int 2) (.cons (.int 1) .nil))) .nil)))) .nil)))))))) (.cons (.asg (.n 1) (.bin .add (.v 1) (.lst (.cons (.tup (.cons (.int 2) (.cons (.int 1) (.cons (.int 5) .nil)))) (.cons (.tup .nil) (.cons (.tup (.cons (.v 4) (.cons (.int 3) .nil))) (.cons (.bl true) (.cons (.bl true) .nil)))))))) (.cons (.asg (.n 6) (.tup (.cons (.tup (.cons (.str "aa") (.cons (.str "0") (.cons (.str "aa") .nil)))) (.cons (.tup (.cons (.str "aa") (.cons (.str "1") (.cons (.str "aa") .nil)))) (.cons (.tup (.cons (.str "b") (.cons (.str "0") (.cons (.str "aa") .nil)))) .nil))))) (.cons (.asg (.n 0) (.bin .add (.v 0) (.lst (.cons (.call 8 (.cons (.v 6) (.cons (.int 2) (.cons (.tup (.cons (.int 1) (.cons (.int 0) .nil))) .nil)))) (.cons (.call 8 (.cons (.v 6) (.cons (.int 2) (.cons (.tup (.cons (.int 0) (.cons (.int 1) .nil))) .nil)))) .nil))))) (.cons (.ret (.call 16 (.cons (.v 0) (.cons (.bin .add (.v 1) (.lst (.cons (.bl true) (.cons (.bl false) .nil)))) .nil)))) .nil))))))))))))))))))))
def f22 : Fn := ⟨0, 13, b22⟩
def e22 : Ent := ⟨"_law_hand_right", [], ["_law_got", "_law_due", "_law_things", "_law_twin", "_law_far", "_law_ring", "_law_rows_so", "_law_gold_here", "_law_two", "_law_three", "_law_four", "_law_own", "_law_k"], tp 27⟩
def b23 : Ss := (.cons (.for' (.n 1) (.rng1 (.int 12)) (.cons (.asg (.t (.cons (.n 5) (.cons (.n 6) .nil))) (.tup (.cons (.call 18 (.cons (.v 0) .nil)) (.cons (.bin .add (.int 1) (.call 13 (.cons (.v 0) (.cons (.int 3) .nil)))) .nil)))) (.cons (.own 2 (.lst .nil)) (.cons (.for' (.n 3) (.rng1 (.int 6)) (.cons (.asg (.n 4) (.f1 .tuple (.lc [13] (.call 15 (.cons (.v 0) (.cons (.lst (.cons (.int 0) (.cons (.int 1) (.cons (.int 1) (.cons (.int 2) (.cons (.int 3) (.cons (.int 5) .nil))))))) .nil))) (.n 13) (.of (.call 19 (.cons (.v 5) .nil))) .no))) (.cons (.asg (.n 7) (.lc [14, 15] (.v 14) (.t (.cons (.n 14) (.cons (.n 15) .nil))) (.enm (.call 20 (.cons (.v 5) (.cons (.v 4) .nil)))) (.yes (.cmp .lt (.v 15) (.bin .mul (.v 6) (.ix (.v 4) (.v 14))))))) (.cons (.asg (.n 8) (.and (.cmp .gt (.f1 .max (.v 4)) (.int 0)) (.cmp .eq (.v 7) (.lst .nil)))) (.cons (.asg (.n 9) (.lst (.cons (.v 4) (.cons (.f1 .list (.v 4)) (.cons (.sl (.v 4) (.yes (.int 1)) .no) (.cons (.bin .add (.v 4) (.tup (.cons (.int 0) .nil))) (.cons (.bin .add (.tup (.cons .non .nil)) (.sl (.v 4) (.yes (.int 1)) .no)) (.cons (.bin .add (.tup (.cons (.neg (.int 1)) .nil)) (.sl (.v 4) (.yes (.int 1)) .no)) (.cons .non .nil))))))))) (.cons (.asg (.n 10) (.lc [12] (.call 8 (.cons (.v 5) (.cons (.v 6) (.cons (.v 12) .nil)))) (.n 12) (.of (.v 9)) .no)) (.cons (.ite (.not (.call 16 (.cons (.bin .add (.v 10) (.lst (.cons (.callk 8 .nil (.cons (.v 4) (.cons (.v 6) (.cons (.call 17 (.cons (.v 5) .nil)) .nil))) [2, 1, 0]) .nil))) (.cons (.bin .add (.bin .add (.lst (.cons (.v 8) .nil)) (.rep (.lst (.cons (.bl false) .nil)) (.int 6))) (.lst (.cons (.v 8) .nil))) .nil)))) (.cons (.ret (.bl false)) .nil) .nil) (.cons (.ite (.v 8) (.cons (.app 2 (.v 4)) .nil) .nil) .nil)))))))) (.cons (.for' (.n 4) (.of (.v 2)) (.cons (.asg (.n 11) (.call 9 (.cons (.ix (.v 2) (.int 0)) (.cons (.v 4) .nil)))) (.cons (.ite (.not (.call 16 (.cons (.v 11) (.cons (.f1 .tuple (.lc [9, 16] (.f2 .max (.v 9) (.v 16)) (.t (.cons (.n 9) (.cons (.n 16) .nil))) (.zip (.ix (.v 2) (.int 0)) (.v 4)) .no)) .nil)))) (.cons (.ret (.bl false)) .nil) .nil) (.cons (.ite (.or (.not (.call 8 (.cons (.v 5) (.cons (.v 6) (.cons (.v 11) .nil))))) (.not (.call 8 (.cons (.v 5) (.cons (.v 6) (.cons (.f1 .tuple (.lc [9, 16] (.bin .add (.v 9) (.v 16)) (.t (.cons (.n 9) (.cons (.n 16) .nil))) (.zip (.ix (.v 2) (.int 0)) (.v 4)) .no)) .nil)))))) (.cons (.ret (.bl false)) .nil) .nil) .nil)))) .nil))))) (.cons (.ret (.bl true)) .nil))
def f23 : Fn := ⟨1, 17, b23⟩
def e23 : Ent := ⟨"_law_right", ["_law_box_here"], ["_law_box_here", "_law_turn", "_law_some", "_law_lap", "_law_own", "_law_mesh", "_law_base", "_law_low", "_law_fine", "_law_near", "_law_got", "_law_cap_so", "_law_bit", "_law_tag", "_law_k", "_law_led_so", "_law_far"], tp 28⟩
def b24 : Ss := (.cons (.ite (.not (.call 22 .nil)) (.cons (.ret (.bl false)) .nil) .nil) (.cons (.asg (.n 1) (.call 14 (.cons (.v 0) (.cons (.int 3) .nil)))) (.cons (.ret (.f1 .all (.lc [2] (.call 23 (.cons (.call 12 (.cons (.v 1) (.cons (.v 2) .nil))) .nil)) (.n 2) (.rng1 (.f1 .len (.v 1))) .no))) .nil)))
def f24 : Fn := ⟨1, 3, b24⟩
def e24 : Ent := ⟨"law", ["_law_script"], ["_law_script", "_law_picks_so", "_law_k"], tp 29⟩
def gls : List D := []
def gld (i : Nat) : Option D := gls[i]?
def fns : List Fn := [f0, f1, f2, f3, f4, f5, f6, f7, f8, f9, f10, f11, f12, f13, f14, f15, f16, f17, f18, f19, f20, f21, f22, f23, f24]
def ents : List Ent := [e0, e1, e2, e3, e4, e5, e6, e7, e8, e9, e10, e11, e12, e13, e14, e15, e16, e17, e18, e19, e20, e21, e22, e23, e24]
def tb : Tbl := ⟨[], [("is_number", 1), ("is_count", 1), ("set_of", 1), ("tupled", 1), ("standings", 1), ("ends_from", 1), ("is_carried", 3), ("are_counts", 2), ("is_vector", 3), ("joined_vector", 2), ("longer", 2), ("powered", 2), ("_law_box", 2), ("_law_take", 2), ("_law_cells", 2), ("_law_of", 2), ("_law_same", 2), ("_law_lists", 1), ("_law_web", 1), ("_law_names", 1), ("_law_led", 2), ("_law_gold", 0), ("_law_hand_right", 0), ("_law_right", 1), ("law", 1)], [(9, 0, ["other", "one"], [1, 0]), (8, 0, ["thing", "n", "web"], [2, 1, 0])], ["abs", "all", "any", "bool", "dict", "enumerate", "int", "isinstance", "len", "list", "max", "range", "set", "sorted", "str", "sum", "tuple", "zip"]⟩
theorem c0 : chkF tb e0 f0 = true := by decide +kernel
theorem c1 : chkF tb e1 f1 = true := by decide +kernel
theorem c2 : chkF tb e2 f2 = true := by decide +kernel
theorem c3 : chkF tb e3 f3 = true := by decide +kernel
theorem c4 : chkF tb e4 f4 = true := by decide +kernel
theorem c5 : chkF tb e5 f5 = true := by decide +kernel
theorem c6 : chkF tb e6 f6 = true := by decide +kernel
theorem c7 : chkF tb e7 f7 = true := by decide +kernel
theorem c8 : chkF tb e8 f8 = true := by decide +kernel
theorem c9 : chkF tb e9 f9 = true := by decide +kernel
theorem c10 : chkF tb e10 f10 = true := by decide +kernel
theorem c11 : chkF tb e11 f11 = true := by decide +kernel
theorem c12 : chkF tb e12 f12 = true := by decide +kernel
theorem c13 : chkF tb e13 f13 = true := by decide +kernel
theorem c14 : chkF tb e14 f14 = true := by decide +kernel
theorem c15 : chkF tb e15 f15 = true := by decide +kernel
theorem c16 : chkF tb e16 f16 = true := by decide +kernel
theorem c17 : chkF tb e17 f17 = true := by decide +kernel
theorem c18 : chkF tb e18 f18 = true := by decide +kernel
theorem c19 : chkF tb e19 f19 = true := by decide +kernel
theorem c20 : chkF tb e20 f20 = true := by decide +kernel
theorem c21 : chkF tb e21 f21 = true := by decide +kernel
theorem c22 : chkF tb e22 f22 = true := by decide +kernel
theorem c23 : chkF tb e23 f23 = true := by decide +kernel
theorem c24 : chkF tb e24 f24 = true := by decide +kernel
theorem chk_all : ∀ (i : Nat) (e : Ent), ents[i]? = some e → ∃ F, fns[i]? = some F ∧ chkF tb e F = true
  | 0, _, h => by cases h; exact ⟨_, rfl, c0⟩
  | 1, _, h => by cases h; exact ⟨_, rfl, c1⟩
  | 2, _, h => by cases h; exact ⟨_, rfl, c2⟩
  | 3, _, h => by cases h; exact ⟨_, rfl, c3⟩
  | 4, _, h => by cases h; exact ⟨_, rfl, c4⟩
  | 5, _, h => by cases h; exact ⟨_, rfl, c5⟩
  | 6, _, h => by cases h; exact ⟨_, rfl, c6⟩
  | 7, _, h => by cases h; exact ⟨_, rfl, c7⟩
  | 8, _, h => by cases h; exact ⟨_, rfl, c8⟩
  | 9, _, h => by cases h; exact ⟨_, rfl, c9⟩
  | 10, _, h => by cases h; exact ⟨_, rfl, c10⟩
  | 11, _, h => by cases h; exact ⟨_, rfl, c11⟩
  | 12, _, h => by cases h; exact ⟨_, rfl, c12⟩
  | 13, _, h => by cases h; exact ⟨_, rfl, c13⟩
  | 14, _, h => by cases h; exact ⟨_, rfl, c14⟩
  | 15, _, h => by cases h; exact ⟨_, rfl, c15⟩
  | 16, _, h => by cases h; exact ⟨_, rfl, c16⟩
  | 17, _, h => by cases h; exact ⟨_, rfl, c17⟩
  | 18, _, h => by cases h; exact ⟨_, rfl, c18⟩
  | 19, _, h => by cases h; exact ⟨_, rfl, c19⟩
  | 20, _, h => by cases h; exact ⟨_, rfl, c20⟩
  | 21, _, h => by cases h; exact ⟨_, rfl, c21⟩
  | 22, _, h => by cases h; exact ⟨_, rfl, c22⟩
  | 23, _, h => by cases h; exact ⟨_, rfl, c23⟩
  | 24, _, h => by cases h; exact ⟨_, rfl, c24⟩
  | _ + 25, _, h => by cases h
abbrev Right : Prop := ∀ ns : List Int, ns.length ≤ 63 → ∃ st, run gld fns 100000 100 24 [.d (.list (ns.map .int))] [] = some (.d (.bool true), st)
theorem kw0 {K : PySem.W.Frag} {kV dc pm cd ct : Value} {an : Option Addr} (m : Nat) (ks : List Str) (pp : List Nat) (hm : (0, m, ks, pp) ∈ tb.kw) : KwOk K (PySem.W.fnOf "is_number" "is_number" (defArgs (tp 1)) (defBody (tp 1)) (defScope (tp 1)) .none kV dc pm an cd ct) ["value"] m ks pp := by
  rcases List.mem_cons.mp hm with h | hm
  · exact absurd (show (0 : Nat) = 9 from congrArg Prod.fst h) (by decide)
  rcases List.mem_cons.mp hm with h | hm
  · exact absurd (show (0 : Nat) = 8 from congrArg Prod.fst h) (by decide)
  cases hm
theorem kw1 {K : PySem.W.Frag} {kV dc pm cd ct : Value} {an : Option Addr} (m : Nat) (ks : List Str) (pp : List Nat) (hm : (1, m, ks, pp) ∈ tb.kw) : KwOk K (PySem.W.fnOf "is_count" "is_count" (defArgs (tp 2)) (defBody (tp 2)) (defScope (tp 2)) .none kV dc pm an cd ct) ["value"] m ks pp := by
  rcases List.mem_cons.mp hm with h | hm
  · exact absurd (show (1 : Nat) = 9 from congrArg Prod.fst h) (by decide)
  rcases List.mem_cons.mp hm with h | hm
  · exact absurd (show (1 : Nat) = 8 from congrArg Prod.fst h) (by decide)
  cases hm
theorem kw2 {K : PySem.W.Frag} {kV dc pm cd ct : Value} {an : Option Addr} (m : Nat) (ks : List Str) (pp : List Nat) (hm : (2, m, ks, pp) ∈ tb.kw) : KwOk K (PySem.W.fnOf "set_of" "set_of" (defArgs (tp 3)) (defBody (tp 3)) (defScope (tp 3)) .none kV dc pm an cd ct) ["some"] m ks pp := by
  rcases List.mem_cons.mp hm with h | hm
  · exact absurd (show (2 : Nat) = 9 from congrArg Prod.fst h) (by decide)
  rcases List.mem_cons.mp hm with h | hm
  · exact absurd (show (2 : Nat) = 8 from congrArg Prod.fst h) (by decide)
  cases hm
theorem kw3 {K : PySem.W.Frag} {kV dc pm cd ct : Value} {an : Option Addr} (m : Nat) (ks : List Str) (pp : List Nat) (hm : (3, m, ks, pp) ∈ tb.kw) : KwOk K (PySem.W.fnOf "tupled" "tupled" (defArgs (tp 4)) (defBody (tp 4)) (defScope (tp 4)) .none kV dc pm an cd ct) ["value"] m ks pp := by
  rcases List.mem_cons.mp hm with h | hm
  · exact absurd (show (3 : Nat) = 9 from congrArg Prod.fst h) (by decide)
  rcases List.mem_cons.mp hm with h | hm
  · exact absurd (show (3 : Nat) = 8 from congrArg Prod.fst h) (by decide)
  cases hm
theorem kw4 {K : PySem.W.Frag} {kV dc pm cd ct : Value} {an : Option Addr} (m : Nat) (ks : List Str) (pp : List Nat) (hm : (4, m, ks, pp) ∈ tb.kw) : KwOk K (PySem.W.fnOf "standings" "standings" (defArgs (tp 6)) (defBody (tp 6)) (defScope (tp 6)) .none kV dc pm an cd ct) ["web"] m ks pp := by
  rcases List.mem_cons.mp hm with h | hm
  · exact absurd (show (4 : Nat) = 9 from congrArg Prod.fst h) (by decide)
  rcases List.mem_cons.mp hm with h | hm
  · exact absurd (show (4 : Nat) = 8 from congrArg Prod.fst h) (by decide)
  cases hm
theorem kw5 {K : PySem.W.Frag} {kV dc pm cd ct : Value} {an : Option Addr} (m : Nat) (ks : List Str) (pp : List Nat) (hm : (5, m, ks, pp) ∈ tb.kw) : KwOk K (PySem.W.fnOf "ends_from" "ends_from" (defArgs (tp 8)) (defBody (tp 8)) (defScope (tp 8)) .none kV dc pm an cd ct) ["web"] m ks pp := by
  rcases List.mem_cons.mp hm with h | hm
  · exact absurd (show (5 : Nat) = 9 from congrArg Prod.fst h) (by decide)
  rcases List.mem_cons.mp hm with h | hm
  · exact absurd (show (5 : Nat) = 8 from congrArg Prod.fst h) (by decide)
  cases hm
theorem kw6 {K : PySem.W.Frag} {kV dc pm cd ct : Value} {an : Option Addr} (m : Nat) (ks : List Str) (pp : List Nat) (hm : (6, m, ks, pp) ∈ tb.kw) : KwOk K (PySem.W.fnOf "is_carried" "is_carried" (defArgs (tp 9)) (defBody (tp 9)) (defScope (tp 9)) .none kV dc pm an cd ct) ["ends", "n", "numbers"] m ks pp := by
  rcases List.mem_cons.mp hm with h | hm
  · exact absurd (show (6 : Nat) = 9 from congrArg Prod.fst h) (by decide)
  rcases List.mem_cons.mp hm with h | hm
  · exact absurd (show (6 : Nat) = 8 from congrArg Prod.fst h) (by decide)
  cases hm
theorem kw7 {K : PySem.W.Frag} {kV dc pm cd ct : Value} {an : Option Addr} (m : Nat) (ks : List Str) (pp : List Nat) (hm : (7, m, ks, pp) ∈ tb.kw) : KwOk K (PySem.W.fnOf "are_counts" "are_counts" (defArgs (tp 10)) (defBody (tp 10)) (defScope (tp 10)) .none kV dc pm an cd ct) ["thing", "many"] m ks pp := by
  rcases List.mem_cons.mp hm with h | hm
  · exact absurd (show (7 : Nat) = 9 from congrArg Prod.fst h) (by decide)
  rcases List.mem_cons.mp hm with h | hm
  · exact absurd (show (7 : Nat) = 8 from congrArg Prod.fst h) (by decide)
  cases hm
theorem kw8 {K : PySem.W.Frag} {kV dc pm cd ct : Value} {an : Option Addr} (m : Nat) (ks : List Str) (pp : List Nat) (hm : (8, m, ks, pp) ∈ tb.kw) : KwOk K (PySem.W.fnOf "is_vector" "is_vector" (defArgs (tp 11)) (defBody (tp 11)) (defScope (tp 11)) .none kV dc pm an cd ct) ["web", "n", "thing"] m ks pp := by
  rcases List.mem_cons.mp hm with h | hm
  · exact absurd (show (8 : Nat) = 9 from congrArg Prod.fst h) (by decide)
  rcases List.mem_cons.mp hm with h | hm
  · cases h; exact fun s us ws hK h1 h2 => match us, ws, h1, h2 with | [], [_, _, _], _, _ => ⟨_, rfl, .of_eq rfl⟩
  cases hm
theorem kw9 {K : PySem.W.Frag} {kV dc pm cd ct : Value} {an : Option Addr} (m : Nat) (ks : List Str) (pp : List Nat) (hm : (9, m, ks, pp) ∈ tb.kw) : KwOk K (PySem.W.fnOf "joined_vector" "joined_vector" (defArgs (tp 12)) (defBody (tp 12)) (defScope (tp 12)) .none kV dc pm an cd ct) ["one", "other"] m ks pp := by
  rcases List.mem_cons.mp hm with h | hm
  · cases h; exact fun s us ws hK h1 h2 => match us, ws, h1, h2 with | [], [_, _], _, _ => ⟨_, rfl, .of_eq rfl⟩
  rcases List.mem_cons.mp hm with h | hm
  · exact absurd (show (9 : Nat) = 8 from congrArg Prod.fst h) (by decide)
  cases hm
theorem kw10 {K : PySem.W.Frag} {kV dc pm cd ct : Value} {an : Option Addr} (m : Nat) (ks : List Str) (pp : List Nat) (hm : (10, m, ks, pp) ∈ tb.kw) : KwOk K (PySem.W.fnOf "longer" "longer" (defArgs (tp 14)) (defBody (tp 14)) (defScope (tp 14)) .none kV dc pm an cd ct) ["web", "machine"] m ks pp := by
  rcases List.mem_cons.mp hm with h | hm
  · exact absurd (show (10 : Nat) = 9 from congrArg Prod.fst h) (by decide)
  rcases List.mem_cons.mp hm with h | hm
  · exact absurd (show (10 : Nat) = 8 from congrArg Prod.fst h) (by decide)
  cases hm
theorem kw11 {K : PySem.W.Frag} {kV dc pm cd ct : Value} {an : Option Addr} (m : Nat) (ks : List Str) (pp : List Nat) (hm : (11, m, ks, pp) ∈ tb.kw) : KwOk K (PySem.W.fnOf "powered" "powered" (defArgs (tp 15)) (defBody (tp 15)) (defScope (tp 15)) .none kV dc pm an cd ct) ["machine", "size"] m ks pp := by
  rcases List.mem_cons.mp hm with h | hm
  · exact absurd (show (11 : Nat) = 9 from congrArg Prod.fst h) (by decide)
  rcases List.mem_cons.mp hm with h | hm
  · exact absurd (show (11 : Nat) = 8 from congrArg Prod.fst h) (by decide)
  cases hm
theorem kw12 {K : PySem.W.Frag} {kV dc pm cd ct : Value} {an : Option Addr} (m : Nat) (ks : List Str) (pp : List Nat) (hm : (12, m, ks, pp) ∈ tb.kw) : KwOk K (PySem.W.fnOf "_law_box" "_law_box" (defArgs (tp 17)) (defBody (tp 17)) (defScope (tp 17)) .none kV dc pm an cd ct) ["_law_script", "_law_k"] m ks pp := by
  rcases List.mem_cons.mp hm with h | hm
  · exact absurd (show (12 : Nat) = 9 from congrArg Prod.fst h) (by decide)
  rcases List.mem_cons.mp hm with h | hm
  · exact absurd (show (12 : Nat) = 8 from congrArg Prod.fst h) (by decide)
  cases hm
theorem kw13 {K : PySem.W.Frag} {kV dc pm cd ct : Value} {an : Option Addr} (m : Nat) (ks : List Str) (pp : List Nat) (hm : (13, m, ks, pp) ∈ tb.kw) : KwOk K (PySem.W.fnOf "_law_take" "_law_take" (defArgs (tp 18)) (defBody (tp 18)) (defScope (tp 18)) .none kV dc pm an cd ct) ["_law_box_here", "_law_size_so"] m ks pp := by
  rcases List.mem_cons.mp hm with h | hm
  · exact absurd (show (13 : Nat) = 9 from congrArg Prod.fst h) (by decide)
  rcases List.mem_cons.mp hm with h | hm
  · exact absurd (show (13 : Nat) = 8 from congrArg Prod.fst h) (by decide)
  cases hm
theorem kw14 {K : PySem.W.Frag} {kV dc pm cd ct : Value} {an : Option Addr} (m : Nat) (ks : List Str) (pp : List Nat) (hm : (14, m, ks, pp) ∈ tb.kw) : KwOk K (PySem.W.fnOf "_law_cells" "_law_cells" (defArgs (tp 19)) (defBody (tp 19)) (defScope (tp 19)) .none kV dc pm an cd ct) ["_law_script", "_law_top_so"] m ks pp := by
  rcases List.mem_cons.mp hm with h | hm
  · exact absurd (show (14 : Nat) = 9 from congrArg Prod.fst h) (by decide)
  rcases List.mem_cons.mp hm with h | hm
  · exact absurd (show (14 : Nat) = 8 from congrArg Prod.fst h) (by decide)
  cases hm
theorem kw15 {K : PySem.W.Frag} {kV dc pm cd ct : Value} {an : Option Addr} (m : Nat) (ks : List Str) (pp : List Nat) (hm : (15, m, ks, pp) ∈ tb.kw) : KwOk K (PySem.W.fnOf "_law_of" "_law_of" (defArgs (tp 20)) (defBody (tp 20)) (defScope (tp 20)) .none kV dc pm an cd ct) ["_law_box_here", "_law_pool_so"] m ks pp := by
  rcases List.mem_cons.mp hm with h | hm
  · exact absurd (show (15 : Nat) = 9 from congrArg Prod.fst h) (by decide)
  rcases List.mem_cons.mp hm with h | hm
  · exact absurd (show (15 : Nat) = 8 from congrArg Prod.fst h) (by decide)
  cases hm
theorem kw16 {K : PySem.W.Frag} {kV dc pm cd ct : Value} {an : Option Addr} (m : Nat) (ks : List Str) (pp : List Nat) (hm : (16, m, ks, pp) ∈ tb.kw) : KwOk K (PySem.W.fnOf "_law_same" "_law_same" (defArgs (tp 21)) (defBody (tp 21)) (defScope (tp 21)) .none kV dc pm an cd ct) ["_law_got", "_law_due"] m ks pp := by
  rcases List.mem_cons.mp hm with h | hm
  · exact absurd (show (16 : Nat) = 9 from congrArg Prod.fst h) (by decide)
  rcases List.mem_cons.mp hm with h | hm
  · exact absurd (show (16 : Nat) = 8 from congrArg Prod.fst h) (by decide)
  cases hm
theorem kw17 {K : PySem.W.Frag} {kV dc pm cd ct : Value} {an : Option Addr} (m : Nat) (ks : List Str) (pp : List Nat) (hm : (17, m, ks, pp) ∈ tb.kw) : KwOk K (PySem.W.fnOf "_law_lists" "_law_lists" (defArgs (tp 22)) (defBody (tp 22)) (defScope (tp 22)) .none kV dc pm an cd ct) ["_law_matter"] m ks pp := by
  rcases List.mem_cons.mp hm with h | hm
  · exact absurd (show (17 : Nat) = 9 from congrArg Prod.fst h) (by decide)
  rcases List.mem_cons.mp hm with h | hm
  · exact absurd (show (17 : Nat) = 8 from congrArg Prod.fst h) (by decide)
  cases hm
theorem kw18 {K : PySem.W.Frag} {kV dc pm cd ct : Value} {an : Option Addr} (m : Nat) (ks : List Str) (pp : List Nat) (hm : (18, m, ks, pp) ∈ tb.kw) : KwOk K (PySem.W.fnOf "_law_web" "_law_web" (defArgs (tp 23)) (defBody (tp 23)) (defScope (tp 23)) .none kV dc pm an cd ct) ["_law_box_here"] m ks pp := by
  rcases List.mem_cons.mp hm with h | hm
  · exact absurd (show (18 : Nat) = 9 from congrArg Prod.fst h) (by decide)
  rcases List.mem_cons.mp hm with h | hm
  · exact absurd (show (18 : Nat) = 8 from congrArg Prod.fst h) (by decide)
  cases hm
theorem kw19 {K : PySem.W.Frag} {kV dc pm cd ct : Value} {an : Option Addr} (m : Nat) (ks : List Str) (pp : List Nat) (hm : (19, m, ks, pp) ∈ tb.kw) : KwOk K (PySem.W.fnOf "_law_names" "_law_names" (defArgs (tp 24)) (defBody (tp 24)) (defScope (tp 24)) .none kV dc pm an cd ct) ["_law_mesh"] m ks pp := by
  rcases List.mem_cons.mp hm with h | hm
  · exact absurd (show (19 : Nat) = 9 from congrArg Prod.fst h) (by decide)
  rcases List.mem_cons.mp hm with h | hm
  · exact absurd (show (19 : Nat) = 8 from congrArg Prod.fst h) (by decide)
  cases hm
theorem kw20 {K : PySem.W.Frag} {kV dc pm cd ct : Value} {an : Option Addr} (m : Nat) (ks : List Str) (pp : List Nat) (hm : (20, m, ks, pp) ∈ tb.kw) : KwOk K (PySem.W.fnOf "_law_led" "_law_led" (defArgs (tp 25)) (defBody (tp 25)) (defScope (tp 25)) .none kV dc pm an cd ct) ["_law_mesh", "_law_marks_so"] m ks pp := by
  rcases List.mem_cons.mp hm with h | hm
  · exact absurd (show (20 : Nat) = 9 from congrArg Prod.fst h) (by decide)
  rcases List.mem_cons.mp hm with h | hm
  · exact absurd (show (20 : Nat) = 8 from congrArg Prod.fst h) (by decide)
  cases hm
theorem kw21 {K : PySem.W.Frag} {kV dc pm cd ct : Value} {an : Option Addr} (m : Nat) (ks : List Str) (pp : List Nat) (hm : (21, m, ks, pp) ∈ tb.kw) : KwOk K (PySem.W.fnOf "_law_gold" "_law_gold" (defArgs (tp 26)) (defBody (tp 26)) (defScope (tp 26)) .none kV dc pm an cd ct) [] m ks pp := by
  rcases List.mem_cons.mp hm with h | hm
  · exact absurd (show (21 : Nat) = 9 from congrArg Prod.fst h) (by decide)
  rcases List.mem_cons.mp hm with h | hm
  · exact absurd (show (21 : Nat) = 8 from congrArg Prod.fst h) (by decide)
  cases hm
theorem kw22 {K : PySem.W.Frag} {kV dc pm cd ct : Value} {an : Option Addr} (m : Nat) (ks : List Str) (pp : List Nat) (hm : (22, m, ks, pp) ∈ tb.kw) : KwOk K (PySem.W.fnOf "_law_hand_right" "_law_hand_right" (defArgs (tp 27)) (defBody (tp 27)) (defScope (tp 27)) .none kV dc pm an cd ct) [] m ks pp := by
  rcases List.mem_cons.mp hm with h | hm
  · exact absurd (show (22 : Nat) = 9 from congrArg Prod.fst h) (by decide)
  rcases List.mem_cons.mp hm with h | hm
  · exact absurd (show (22 : Nat) = 8 from congrArg Prod.fst h) (by decide)
  cases hm
theorem kw23 {K : PySem.W.Frag} {kV dc pm cd ct : Value} {an : Option Addr} (m : Nat) (ks : List Str) (pp : List Nat) (hm : (23, m, ks, pp) ∈ tb.kw) : KwOk K (PySem.W.fnOf "_law_right" "_law_right" (defArgs (tp 28)) (defBody (tp 28)) (defScope (tp 28)) .none kV dc pm an cd ct) ["_law_box_here"] m ks pp := by
  rcases List.mem_cons.mp hm with h | hm
  · exact absurd (show (23 : Nat) = 9 from congrArg Prod.fst h) (by decide)
  rcases List.mem_cons.mp hm with h | hm
  · exact absurd (show (23 : Nat) = 8 from congrArg Prod.fst h) (by decide)
  cases hm
theorem kw24 {K : PySem.W.Frag} {kV dc pm cd ct : Value} {an : Option Addr} (m : Nat) (ks : List Str) (pp : List Nat) (hm : (24, m, ks, pp) ∈ tb.kw) : KwOk K (PySem.W.fnOf "law" "law" (defArgs (tp 29)) (defBody (tp 29)) (defScope (tp 29)) .none kV dc pm an cd ct) ["_law_script"] m ks pp := by
  rcases List.mem_cons.mp hm with h | hm
  · exact absurd (show (24 : Nat) = 9 from congrArg Prod.fst h) (by decide)
  rcases List.mem_cons.mp hm with h | hm
  · exact absurd (show (24 : Nat) = 8 from congrArg Prod.fst h) (by decide)
  cases hm
theorem all_mk (right : Right) {l : PySem.W.OpenLaw} {w : World} {K : PySem.W.Frag} {h : Heap} {mg : Str → Option Value} {fa g0 g1 g2 g3 g4 g5 g6 g7 g8 g9 g10 g11 g12 g13 g14 g15 g16 g17 g18 g19 g20 g21 g22 g23 g24 : Addr} (X : K.In h) (G : h.Ns mainGlobals mg) (hfa : mg "law" = some (.ref fa))
 {od0 an0 od1 an1 od2 an2 od3 an3 od4 an4 od5 an5 od6 an6 od7 an7 od8 an8 od9 an9 od10 an10 od11 an11 od12 an12 od13 an13 od14 an14 od15 an15 od16 an16 od17 an17 od18 an18 od19 an19 od20 an20 od21 an21 od22 an22 od23 an23 od24 an24 : Option Addr} {sl0 sl1 sl2 sl3 sl4 sl5 sl6 sl7 sl8 sl9 sl10 sl11 sl12 sl13 sl14 sl15 sl16 sl17 sl18 sl19 sl20 sl21 sl22 sl23 sl24 : Array (Option Value)} {oc0 kV0 dc0 pm0 cd0 ct0 oc1 kV1 dc1 pm1 cd1 ct1 oc2 kV2 dc2 pm2 cd2 ct2 oc3 kV3 dc3 pm3 cd3 ct3 oc4 kV4 dc4 pm4 cd4 ct4 oc5 kV5 dc5 pm5 cd5 ct5 oc6 kV6 dc6 pm6 cd6 ct6 oc7 kV7 dc7 pm7 cd7 ct7 oc8 kV8 dc8 pm8 cd8 ct8 oc9 kV9 dc9 pm9 cd9 ct9 oc10 kV10 dc10 pm10 cd10 ct10 oc11 kV11 dc11 pm11 cd11 ct11 oc12 kV12 dc12 pm12 cd12 ct12 oc13 kV13 dc13 pm13 cd13 ct13 oc14 kV14 dc14 pm14 cd14 ct14 oc15 kV15 dc15 pm15 cd15 ct15 oc16 kV16 dc16 pm16 cd16 ct16 oc17 kV17 dc17 pm17 cd17 ct17 oc18 kV18 dc18 pm18 cd18 ct18 oc19 kV19 dc19 pm19 cd19 ct19 oc20 kV20 dc20 pm20 cd20 ct20 oc21 kV21 dc21 pm21 cd21 ct21 oc22 kV22 dc22 pm22 cd22 ct22 oc23 kV23 dc23 pm23 cd23 ct23 oc24 kV24 dc24 pm24 cd24 ct24 : Value}
  (a0 : PySem.W.nsIn K mainGlobals "is_number" = some (some (.ref g0))) (l0 : K.lookup g0 = some ⟨oc0, od0, .func (PySem.W.fnOf "is_number" "is_number" (defArgs (tp 1)) (defBody (tp 1)) (defScope (tp 1)) .none kV0 dc0 pm0 an0 cd0 ct0), sl0⟩) (d0 : PySem.W.codeIn K cd0 "is_number" = true) (k0 : PySem.W.keepIn K (.ref g0) = true)
  (a1 : PySem.W.nsIn K mainGlobals "is_count" = some (some (.ref g1))) (l1 : K.lookup g1 = some ⟨oc1, od1, .func (PySem.W.fnOf "is_count" "is_count" (defArgs (tp 2)) (defBody (tp 2)) (defScope (tp 2)) .none kV1 dc1 pm1 an1 cd1 ct1), sl1⟩) (d1 : PySem.W.codeIn K cd1 "is_count" = true) (k1 : PySem.W.keepIn K (.ref g1) = true)
  (a2 : PySem.W.nsIn K mainGlobals "set_of" = some (some (.ref g2))) (l2 : K.lookup g2 = some ⟨oc2, od2, .func (PySem.W.fnOf "set_of" "set_of" (defArgs (tp 3)) (defBody (tp 3)) (defScope (tp 3)) .none kV2 dc2 pm2 an2 cd2 ct2), sl2⟩) (d2 : PySem.W.codeIn K cd2 "set_of" = true) (k2 : PySem.W.keepIn K (.ref g2) = true)
  (a3 : PySem.W.nsIn K mainGlobals "tupled" = some (some (.ref g3))) (l3 : K.lookup g3 = some ⟨oc3, od3, .func (PySem.W.fnOf "tupled" "tupled" (defArgs (tp 4)) (defBody (tp 4)) (defScope (tp 4)) .none kV3 dc3 pm3 an3 cd3 ct3), sl3⟩) (d3 : PySem.W.codeIn K cd3 "tupled" = true) (k3 : PySem.W.keepIn K (.ref g3) = true)
  (a4 : PySem.W.nsIn K mainGlobals "standings" = some (some (.ref g4))) (l4 : K.lookup g4 = some ⟨oc4, od4, .func (PySem.W.fnOf "standings" "standings" (defArgs (tp 6)) (defBody (tp 6)) (defScope (tp 6)) .none kV4 dc4 pm4 an4 cd4 ct4), sl4⟩) (d4 : PySem.W.codeIn K cd4 "standings" = true) (k4 : PySem.W.keepIn K (.ref g4) = true)
  (a5 : PySem.W.nsIn K mainGlobals "ends_from" = some (some (.ref g5))) (l5 : K.lookup g5 = some ⟨oc5, od5, .func (PySem.W.fnOf "ends_from" "ends_from" (defArgs (tp 8)) (defBody (tp 8)) (defScope (tp 8)) .none kV5 dc5 pm5 an5 cd5 ct5), sl5⟩) (d5 : PySem.W.codeIn K cd5 "ends_from" = true) (k5 : PySem.W.keepIn K (.ref g5) = true)
  (a6 : PySem.W.nsIn K mainGlobals "is_carried" = some (some (.ref g6))) (l6 : K.lookup g6 = some ⟨oc6, od6, .func (PySem.W.fnOf "is_carried" "is_carried" (defArgs (tp 9)) (defBody (tp 9)) (defScope (tp 9)) .none kV6 dc6 pm6 an6 cd6 ct6), sl6⟩) (d6 : PySem.W.codeIn K cd6 "is_carried" = true) (k6 : PySem.W.keepIn K (.ref g6) = true)
  (a7 : PySem.W.nsIn K mainGlobals "are_counts" = some (some (.ref g7))) (l7 : K.lookup g7 = some ⟨oc7, od7, .func (PySem.W.fnOf "are_counts" "are_counts" (defArgs (tp 10)) (defBody (tp 10)) (defScope (tp 10)) .none kV7 dc7 pm7 an7 cd7 ct7), sl7⟩) (d7 : PySem.W.codeIn K cd7 "are_counts" = true) (k7 : PySem.W.keepIn K (.ref g7) = true)
  (a8 : PySem.W.nsIn K mainGlobals "is_vector" = some (some (.ref g8))) (l8 : K.lookup g8 = some ⟨oc8, od8, .func (PySem.W.fnOf "is_vector" "is_vector" (defArgs (tp 11)) (defBody (tp 11)) (defScope (tp 11)) .none kV8 dc8 pm8 an8 cd8 ct8), sl8⟩) (d8 : PySem.W.codeIn K cd8 "is_vector" = true) (k8 : PySem.W.keepIn K (.ref g8) = true)
  (a9 : PySem.W.nsIn K mainGlobals "joined_vector" = some (some (.ref g9))) (l9 : K.lookup g9 = some ⟨oc9, od9, .func (PySem.W.fnOf "joined_vector" "joined_vector" (defArgs (tp 12)) (defBody (tp 12)) (defScope (tp 12)) .none kV9 dc9 pm9 an9 cd9 ct9), sl9⟩) (d9 : PySem.W.codeIn K cd9 "joined_vector" = true) (k9 : PySem.W.keepIn K (.ref g9) = true)
  (a10 : PySem.W.nsIn K mainGlobals "longer" = some (some (.ref g10))) (l10 : K.lookup g10 = some ⟨oc10, od10, .func (PySem.W.fnOf "longer" "longer" (defArgs (tp 14)) (defBody (tp 14)) (defScope (tp 14)) .none kV10 dc10 pm10 an10 cd10 ct10), sl10⟩) (d10 : PySem.W.codeIn K cd10 "longer" = true) (k10 : PySem.W.keepIn K (.ref g10) = true)
  (a11 : PySem.W.nsIn K mainGlobals "powered" = some (some (.ref g11))) (l11 : K.lookup g11 = some ⟨oc11, od11, .func (PySem.W.fnOf "powered" "powered" (defArgs (tp 15)) (defBody (tp 15)) (defScope (tp 15)) .none kV11 dc11 pm11 an11 cd11 ct11), sl11⟩) (d11 : PySem.W.codeIn K cd11 "powered" = true) (k11 : PySem.W.keepIn K (.ref g11) = true)
  (a12 : PySem.W.nsIn K mainGlobals "_law_box" = some (some (.ref g12))) (l12 : K.lookup g12 = some ⟨oc12, od12, .func (PySem.W.fnOf "_law_box" "_law_box" (defArgs (tp 17)) (defBody (tp 17)) (defScope (tp 17)) .none kV12 dc12 pm12 an12 cd12 ct12), sl12⟩) (d12 : PySem.W.codeIn K cd12 "_law_box" = true) (k12 : PySem.W.keepIn K (.ref g12) = true)
  (a13 : PySem.W.nsIn K mainGlobals "_law_take" = some (some (.ref g13))) (l13 : K.lookup g13 = some ⟨oc13, od13, .func (PySem.W.fnOf "_law_take" "_law_take" (defArgs (tp 18)) (defBody (tp 18)) (defScope (tp 18)) .none kV13 dc13 pm13 an13 cd13 ct13), sl13⟩) (d13 : PySem.W.codeIn K cd13 "_law_take" = true) (k13 : PySem.W.keepIn K (.ref g13) = true)
  (a14 : PySem.W.nsIn K mainGlobals "_law_cells" = some (some (.ref g14))) (l14 : K.lookup g14 = some ⟨oc14, od14, .func (PySem.W.fnOf "_law_cells" "_law_cells" (defArgs (tp 19)) (defBody (tp 19)) (defScope (tp 19)) .none kV14 dc14 pm14 an14 cd14 ct14), sl14⟩) (d14 : PySem.W.codeIn K cd14 "_law_cells" = true) (k14 : PySem.W.keepIn K (.ref g14) = true)
  (a15 : PySem.W.nsIn K mainGlobals "_law_of" = some (some (.ref g15))) (l15 : K.lookup g15 = some ⟨oc15, od15, .func (PySem.W.fnOf "_law_of" "_law_of" (defArgs (tp 20)) (defBody (tp 20)) (defScope (tp 20)) .none kV15 dc15 pm15 an15 cd15 ct15), sl15⟩) (d15 : PySem.W.codeIn K cd15 "_law_of" = true) (k15 : PySem.W.keepIn K (.ref g15) = true)
  (a16 : PySem.W.nsIn K mainGlobals "_law_same" = some (some (.ref g16))) (l16 : K.lookup g16 = some ⟨oc16, od16, .func (PySem.W.fnOf "_law_same" "_law_same" (defArgs (tp 21)) (defBody (tp 21)) (defScope (tp 21)) .none kV16 dc16 pm16 an16 cd16 ct16), sl16⟩) (d16 : PySem.W.codeIn K cd16 "_law_same" = true) (k16 : PySem.W.keepIn K (.ref g16) = true)
  (a17 : PySem.W.nsIn K mainGlobals "_law_lists" = some (some (.ref g17))) (l17 : K.lookup g17 = some ⟨oc17, od17, .func (PySem.W.fnOf "_law_lists" "_law_lists" (defArgs (tp 22)) (defBody (tp 22)) (defScope (tp 22)) .none kV17 dc17 pm17 an17 cd17 ct17), sl17⟩) (d17 : PySem.W.codeIn K cd17 "_law_lists" = true) (k17 : PySem.W.keepIn K (.ref g17) = true)
  (a18 : PySem.W.nsIn K mainGlobals "_law_web" = some (some (.ref g18))) (l18 : K.lookup g18 = some ⟨oc18, od18, .func (PySem.W.fnOf "_law_web" "_law_web" (defArgs (tp 23)) (defBody (tp 23)) (defScope (tp 23)) .none kV18 dc18 pm18 an18 cd18 ct18), sl18⟩) (d18 : PySem.W.codeIn K cd18 "_law_web" = true) (k18 : PySem.W.keepIn K (.ref g18) = true)
  (a19 : PySem.W.nsIn K mainGlobals "_law_names" = some (some (.ref g19))) (l19 : K.lookup g19 = some ⟨oc19, od19, .func (PySem.W.fnOf "_law_names" "_law_names" (defArgs (tp 24)) (defBody (tp 24)) (defScope (tp 24)) .none kV19 dc19 pm19 an19 cd19 ct19), sl19⟩) (d19 : PySem.W.codeIn K cd19 "_law_names" = true) (k19 : PySem.W.keepIn K (.ref g19) = true)
  (a20 : PySem.W.nsIn K mainGlobals "_law_led" = some (some (.ref g20))) (l20 : K.lookup g20 = some ⟨oc20, od20, .func (PySem.W.fnOf "_law_led" "_law_led" (defArgs (tp 25)) (defBody (tp 25)) (defScope (tp 25)) .none kV20 dc20 pm20 an20 cd20 ct20), sl20⟩) (d20 : PySem.W.codeIn K cd20 "_law_led" = true) (k20 : PySem.W.keepIn K (.ref g20) = true)
  (a21 : PySem.W.nsIn K mainGlobals "_law_gold" = some (some (.ref g21))) (l21 : K.lookup g21 = some ⟨oc21, od21, .func (PySem.W.fnOf "_law_gold" "_law_gold" (defArgs (tp 26)) (defBody (tp 26)) (defScope (tp 26)) .none kV21 dc21 pm21 an21 cd21 ct21), sl21⟩) (d21 : PySem.W.codeIn K cd21 "_law_gold" = true) (k21 : PySem.W.keepIn K (.ref g21) = true)
  (a22 : PySem.W.nsIn K mainGlobals "_law_hand_right" = some (some (.ref g22))) (l22 : K.lookup g22 = some ⟨oc22, od22, .func (PySem.W.fnOf "_law_hand_right" "_law_hand_right" (defArgs (tp 27)) (defBody (tp 27)) (defScope (tp 27)) .none kV22 dc22 pm22 an22 cd22 ct22), sl22⟩) (d22 : PySem.W.codeIn K cd22 "_law_hand_right" = true) (k22 : PySem.W.keepIn K (.ref g22) = true)
  (a23 : PySem.W.nsIn K mainGlobals "_law_right" = some (some (.ref g23))) (l23 : K.lookup g23 = some ⟨oc23, od23, .func (PySem.W.fnOf "_law_right" "_law_right" (defArgs (tp 28)) (defBody (tp 28)) (defScope (tp 28)) .none kV23 dc23 pm23 an23 cd23 ct23), sl23⟩) (d23 : PySem.W.codeIn K cd23 "_law_right" = true) (k23 : PySem.W.keepIn K (.ref g23) = true)
  (a24 : PySem.W.nsIn K mainGlobals "law" = some (some (.ref g24))) (l24 : K.lookup g24 = some ⟨oc24, od24, .func (PySem.W.fnOf "law" "law" (defArgs (tp 29)) (defBody (tp 29)) (defScope (tp 29)) .none kV24 dc24 pm24 an24 cd24 ct24), sl24⟩) (d24 : PySem.W.codeIn K cd24 "law" = true) (k24 : PySem.W.keepIn K (.ref g24) = true)
  (z0 : PySem.W.nsIn K mainGlobals "abs" = some none)
  (z1 : PySem.W.nsIn K mainGlobals "all" = some none)
  (z2 : PySem.W.nsIn K mainGlobals "any" = some none)
  (z3 : PySem.W.nsIn K mainGlobals "bool" = some none)
  (z4 : PySem.W.nsIn K mainGlobals "dict" = some none)
  (z5 : PySem.W.nsIn K mainGlobals "enumerate" = some none)
  (z6 : PySem.W.nsIn K mainGlobals "int" = some none)
  (z7 : PySem.W.nsIn K mainGlobals "isinstance" = some none)
  (z8 : PySem.W.nsIn K mainGlobals "len" = some none)
  (z9 : PySem.W.nsIn K mainGlobals "list" = some none)
  (z10 : PySem.W.nsIn K mainGlobals "max" = some none)
  (z11 : PySem.W.nsIn K mainGlobals "range" = some none)
  (z12 : PySem.W.nsIn K mainGlobals "set" = some none)
  (z13 : PySem.W.nsIn K mainGlobals "sorted" = some none)
  (z14 : PySem.W.nsIn K mainGlobals "str" = some none)
  (z15 : PySem.W.nsIn K mainGlobals "sum" = some none)
  (z16 : PySem.W.nsIn K mainGlobals "tuple" = some none)
  (z17 : PySem.W.nsIn K mainGlobals "zip" = some none)
  : ∃ fd : FuncData, (∀ (s : Shared) (v : Value), BindsTo s fd ⟨[v], []⟩ [("_law_script", v)]) ∧ ∀ base : Heap, K.In base → base.Ns mainGlobals mg → FnOk l.prog w K mg base L2.CX0 100 fa fd ["_law_script"] (fun vs H Q _ => ∃ (a : Addr) (ns : List Int), vs = [.ref a] ∧ SqL K H a (ns.map V.int) ∧ ns.length ≤ 63 ∧ ∀ H', Q (.bl true) H') := by
  cases hfa.symm.trans (PySem.W.mg_of X G a24)
  have q0 := fun_mk (st := tp 1) l0 d0 k0
  have r0 : EntOk K mg tb 0 e0 g0 _ := ⟨q0, PySem.W.mg_of X G a0, q0.binds (ps := ["value"]) fun _ _ _ _ _ _ us hl => match us, hl with | [_], _ => rfl, kw0⟩
  have q1 := fun_mk (st := tp 2) l1 d1 k1
  have r1 : EntOk K mg tb 1 e1 g1 _ := ⟨q1, PySem.W.mg_of X G a1, q1.binds (ps := ["value"]) fun _ _ _ _ _ _ us hl => match us, hl with | [_], _ => rfl, kw1⟩
  have q2 := fun_mk (st := tp 3) l2 d2 k2
  have r2 : EntOk K mg tb 2 e2 g2 _ := ⟨q2, PySem.W.mg_of X G a2, q2.binds (ps := ["some"]) fun _ _ _ _ _ _ us hl => match us, hl with | [_], _ => rfl, kw2⟩
  have q3 := fun_mk (st := tp 4) l3 d3 k3
  have r3 : EntOk K mg tb 3 e3 g3 _ := ⟨q3, PySem.W.mg_of X G a3, q3.binds (ps := ["value"]) fun _ _ _ _ _ _ us hl => match us, hl with | [_], _ => rfl, kw3⟩
  have q4 := fun_mk (st := tp 6) l4 d4 k4
  have r4 : EntOk K mg tb 4 e4 g4 _ := ⟨q4, PySem.W.mg_of X G a4, q4.binds (ps := ["web"]) fun _ _ _ _ _ _ us hl => match us, hl with | [_], _ => rfl, kw4⟩
  have q5 := fun_mk (st := tp 8) l5 d5 k5
  have r5 : EntOk K mg tb 5 e5 g5 _ := ⟨q5, PySem.W.mg_of X G a5, q5.binds (ps := ["web"]) fun _ _ _ _ _ _ us hl => match us, hl with | [_], _ => rfl, kw5⟩
  have q6 := fun_mk (st := tp 9) l6 d6 k6
  have r6 : EntOk K mg tb 6 e6 g6 _ := ⟨q6, PySem.W.mg_of X G a6, q6.binds (ps := ["ends", "n", "numbers"]) fun _ _ _ _ _ _ us hl => match us, hl with | [_, _, _], _ => rfl, kw6⟩
  have q7 := fun_mk (st := tp 10) l7 d7 k7
  have r7 : EntOk K mg tb 7 e7 g7 _ := ⟨q7, PySem.W.mg_of X G a7, q7.binds (ps := ["thing", "many"]) fun _ _ _ _ _ _ us hl => match us, hl with | [_, _], _ => rfl, kw7⟩
  have q8 := fun_mk (st := tp 11) l8 d8 k8
  have r8 : EntOk K mg tb 8 e8 g8 _ := ⟨q8, PySem.W.mg_of X G a8, q8.binds (ps := ["web", "n", "thing"]) fun _ _ _ _ _ _ us hl => match us, hl with | [_, _, _], _ => rfl, kw8⟩
  have q9 := fun_mk (st := tp 12) l9 d9 k9
  have r9 : EntOk K mg tb 9 e9 g9 _ := ⟨q9, PySem.W.mg_of X G a9, q9.binds (ps := ["one", "other"]) fun _ _ _ _ _ _ us hl => match us, hl with | [_, _], _ => rfl, kw9⟩
  have q10 := fun_mk (st := tp 14) l10 d10 k10
  have r10 : EntOk K mg tb 10 e10 g10 _ := ⟨q10, PySem.W.mg_of X G a10, q10.binds (ps := ["web", "machine"]) fun _ _ _ _ _ _ us hl => match us, hl with | [_, _], _ => rfl, kw10⟩
  have q11 := fun_mk (st := tp 15) l11 d11 k11
  have r11 : EntOk K mg tb 11 e11 g11 _ := ⟨q11, PySem.W.mg_of X G a11, q11.binds (ps := ["machine", "size"]) fun _ _ _ _ _ _ us hl => match us, hl with | [_, _], _ => rfl, kw11⟩
  have q12 := fun_mk (st := tp 17) l12 d12 k12
  have r12 : EntOk K mg tb 12 e12 g12 _ := ⟨q12, PySem.W.mg_of X G a12, q12.binds (ps := ["_law_script", "_law_k"]) fun _ _ _ _ _ _ us hl => match us, hl with | [_, _], _ => rfl, kw12⟩
  have q13 := fun_mk (st := tp 18) l13 d13 k13
  have r13 : EntOk K mg tb 13 e13 g13 _ := ⟨q13, PySem.W.mg_of X G a13, q13.binds (ps := ["_law_box_here", "_law_size_so"]) fun _ _ _ _ _ _ us hl => match us, hl with | [_, _], _ => rfl, kw13⟩
  have q14 := fun_mk (st := tp 19) l14 d14 k14
  have r14 : EntOk K mg tb 14 e14 g14 _ := ⟨q14, PySem.W.mg_of X G a14, q14.binds (ps := ["_law_script", "_law_top_so"]) fun _ _ _ _ _ _ us hl => match us, hl with | [_, _], _ => rfl, kw14⟩
  have q15 := fun_mk (st := tp 20) l15 d15 k15
  have r15 : EntOk K mg tb 15 e15 g15 _ := ⟨q15, PySem.W.mg_of X G a15, q15.binds (ps := ["_law_box_here", "_law_pool_so"]) fun _ _ _ _ _ _ us hl => match us, hl with | [_, _], _ => rfl, kw15⟩
  have q16 := fun_mk (st := tp 21) l16 d16 k16
  have r16 : EntOk K mg tb 16 e16 g16 _ := ⟨q16, PySem.W.mg_of X G a16, q16.binds (ps := ["_law_got", "_law_due"]) fun _ _ _ _ _ _ us hl => match us, hl with | [_, _], _ => rfl, kw16⟩
  have q17 := fun_mk (st := tp 22) l17 d17 k17
  have r17 : EntOk K mg tb 17 e17 g17 _ := ⟨q17, PySem.W.mg_of X G a17, q17.binds (ps := ["_law_matter"]) fun _ _ _ _ _ _ us hl => match us, hl with | [_], _ => rfl, kw17⟩
  have q18 := fun_mk (st := tp 23) l18 d18 k18
  have r18 : EntOk K mg tb 18 e18 g18 _ := ⟨q18, PySem.W.mg_of X G a18, q18.binds (ps := ["_law_box_here"]) fun _ _ _ _ _ _ us hl => match us, hl with | [_], _ => rfl, kw18⟩
  have q19 := fun_mk (st := tp 24) l19 d19 k19
  have r19 : EntOk K mg tb 19 e19 g19 _ := ⟨q19, PySem.W.mg_of X G a19, q19.binds (ps := ["_law_mesh"]) fun _ _ _ _ _ _ us hl => match us, hl with | [_], _ => rfl, kw19⟩
  have q20 := fun_mk (st := tp 25) l20 d20 k20
  have r20 : EntOk K mg tb 20 e20 g20 _ := ⟨q20, PySem.W.mg_of X G a20, q20.binds (ps := ["_law_mesh", "_law_marks_so"]) fun _ _ _ _ _ _ us hl => match us, hl with | [_, _], _ => rfl, kw20⟩
  have q21 := fun_mk (st := tp 26) l21 d21 k21
  have r21 : EntOk K mg tb 21 e21 g21 _ := ⟨q21, PySem.W.mg_of X G a21, q21.binds (ps := []) fun _ _ _ _ _ _ us hl => match us, hl with | [], _ => rfl, kw21⟩
  have q22 := fun_mk (st := tp 27) l22 d22 k22
  have r22 : EntOk K mg tb 22 e22 g22 _ := ⟨q22, PySem.W.mg_of X G a22, q22.binds (ps := []) fun _ _ _ _ _ _ us hl => match us, hl with | [], _ => rfl, kw22⟩
  have q23 := fun_mk (st := tp 28) l23 d23 k23
  have r23 : EntOk K mg tb 23 e23 g23 _ := ⟨q23, PySem.W.mg_of X G a23, q23.binds (ps := ["_law_box_here"]) fun _ _ _ _ _ _ us hl => match us, hl with | [_], _ => rfl, kw23⟩
  have q24 := fun_mk (st := tp 29) l24 d24 k24
  have r24 : EntOk K mg tb 24 e24 fa _ := ⟨q24, PySem.W.mg_of X G a24, q24.binds (ps := ["_law_script"]) fun _ _ _ _ _ _ us hl => match us, hl with | [_], _ => rfl, kw24⟩
  have E : ∀ (i : Nat) (e : Ent), ents[i]? = some e → ∃ f fd, EntOk K mg tb i e f fd := fun i e he => match i, he with
    | 0, he => by cases he; exact ⟨_, _, r0⟩
    | 1, he => by cases he; exact ⟨_, _, r1⟩
    | 2, he => by cases he; exact ⟨_, _, r2⟩
    | 3, he => by cases he; exact ⟨_, _, r3⟩
    | 4, he => by cases he; exact ⟨_, _, r4⟩
    | 5, he => by cases he; exact ⟨_, _, r5⟩
    | 6, he => by cases he; exact ⟨_, _, r6⟩
    | 7, he => by cases he; exact ⟨_, _, r7⟩
    | 8, he => by cases he; exact ⟨_, _, r8⟩
    | 9, he => by cases he; exact ⟨_, _, r9⟩
    | 10, he => by cases he; exact ⟨_, _, r10⟩
    | 11, he => by cases he; exact ⟨_, _, r11⟩
    | 12, he => by cases he; exact ⟨_, _, r12⟩
    | 13, he => by cases he; exact ⟨_, _, r13⟩
    | 14, he => by cases he; exact ⟨_, _, r14⟩
    | 15, he => by cases he; exact ⟨_, _, r15⟩
    | 16, he => by cases he; exact ⟨_, _, r16⟩
    | 17, he => by cases he; exact ⟨_, _, r17⟩
    | 18, he => by cases he; exact ⟨_, _, r18⟩
    | 19, he => by cases he; exact ⟨_, _, r19⟩
    | 20, he => by cases he; exact ⟨_, _, r20⟩
    | 21, he => by cases he; exact ⟨_, _, r21⟩
    | 22, he => by cases he; exact ⟨_, _, r22⟩
    | 23, he => by cases he; exact ⟨_, _, r23⟩
    | 24, he => by cases he; exact ⟨_, _, r24⟩
    | _ + 25, he => by cases he
  have B : ∀ x, tb.bl.contains x = true → mg x = none := fun x hx => by
    have hx : x ∈ tb.bl := by simpa using hx
    simp only [tb, List.mem_cons, List.not_mem_nil, or_false] at hx
    rcases hx with rfl | rfl | rfl | rfl | rfl | rfl | rfl | rfl | rfl | rfl | rfl | rfl | rfl | rfl | rfl | rfl | rfl | rfl
    · exact PySem.W.mg_none_of X G z0
    · exact PySem.W.mg_none_of X G z1
    · exact PySem.W.mg_none_of X G z2
    · exact PySem.W.mg_none_of X G z3
    · exact PySem.W.mg_none_of X G z4
    · exact PySem.W.mg_none_of X G z5
    · exact PySem.W.mg_none_of X G z6
    · exact PySem.W.mg_none_of X G z7
    · exact PySem.W.mg_none_of X G z8
    · exact PySem.W.mg_none_of X G z9
    · exact PySem.W.mg_none_of X G z10
    · exact PySem.W.mg_none_of X G z11
    · exact PySem.W.mg_none_of X G z12
    · exact PySem.W.mg_none_of X G z13
    · exact PySem.W.mg_none_of X G z14
    · exact PySem.W.mg_none_of X G z15
    · exact PySem.W.mg_none_of X G z16
    · exact PySem.W.mg_none_of X G z17
  have G2 : ∀ (i : Nat) (x : Str), tb.gs[i]? = some x → ∃ d v u, gld i = some d ∧ mg x = some u ∧ RelV v u ∧ ∀ B H, Rp K B H v d := fun i x h => match i, h with
    | _, h => by cases h
  refine ⟨PySem.W.fnOf "law" "law" (defArgs (tp 29)) (defBody (tp 29)) (defScope (tp 29)) .none kV24 dc24 pm24 an24 cd24 ct24, fun s v => .of_eq rfl, fun base _ _ => ?_⟩
  exact law_ok (all_ok (es := ents) (T := tb) (gl := gld) (P := fns) (W := 100000) E chk_all rfl B G2 100 24 e24 fa _ rfl r24) right
end Law

end
section
set_option Elab.async false
set_option linter.all false
set_option maxRecDepth 100000
set_option maxHeartbeats 4000000
namespace Lib
open PySem Pi
local macro_rules | `(tactic| walk_at "po") => `(tactic| first
  | exact addI _ _ | exact subI _ _
  | exact gt_int _ _ | exact lt_int _ _ | exact ge_int _ _ | exact le_int _ _ | exact eq_int _ _ | exact eq_str _ _
  | exact mulR ⟨by omega, by omega⟩ | exact mulL ⟨by omega, by omega⟩ | exact modP (by omega) | exact fdivP (by omega) (by first | decide +kernel | exact log2_small (by omega))
  | exact rfl)
local macro_rules | `(tactic| walk_at "pe") => `(tactic| repeat' (first
  | exact bor_sh rfl | exact bor_ow rfl | exact ev_sh rfl | exact ev_int | exact ev_str | exact ev_bl | exact ev_non | exact evs_nil | exact eva_nil
  | (apply bor_E rfl)
  | (apply ev_bin) | (apply ev_f1) | (apply ev_f2)
  | (apply ev_ix) | (apply ev_cmp) | (apply ev_neg)
  | (apply ev_bx)
  | (apply toD_E)
  | (apply evs_cons) | (apply eva_cons)
  | assumption | walk_at "po"))
/-! ### texts in order, each once -/
def unS : D → Str
  | .str x => x
  | _ => Str.empty
theorem alike_str (a b : Str) : PySem.W.alike (.str a) (.str b) = true := by simp [PySem.W.alike]
theorem kin_str (l : List Str) : Kin (l.map PyData.str) := ⟨fun x hx => by
    obtain ⟨c, _, rfl⟩ := List.mem_map.mp hx
    rfl, fun x hx y hy => by
    obtain ⟨c, _, rfl⟩ := List.mem_map.mp hx
    obtain ⟨d, _, rfl⟩ := List.mem_map.mp hy
    exact alike_str c d⟩
def ordS (l : List Str) : List Str := (usortD (l.map PyData.str)).map unS
theorem ordS_map (l : List Str) : usortD (l.map PyData.str) = (ordS l).map PyData.str := by
  unfold ordS
  rw [List.map_map]
  refine (List.map_id _).symm.trans (List.map_congr_left fun x hx => ?_)
  obtain ⟨c, _, rfl⟩ := List.mem_map.mp ((mem_usort (kin_str l) x).mp hx)
  rfl
theorem mem_ordS {l : List Str} {x : Str} : x ∈ ordS l ↔ x ∈ l := by
  have h := mem_usort (kin_str l) (.str x)
  rw [ordS_map] at h
  constructor
  · intro q
    obtain ⟨y, hy, e⟩ := List.mem_map.mp (h.mp (List.mem_map_of_mem q))
    cases e; exact hy
  · intro q
    obtain ⟨y, hy, e⟩ := List.mem_map.mp (h.mpr (List.mem_map_of_mem q))
    cases e; exact hy
theorem nodup_ordS (l : List Str) : (ordS l).Nodup := by
  have h := nodup_up (usort_up (kin_str l))
  rw [ordS_map] at h
  exact (List.pairwise_map.mp h).imp fun {a b} q e => q (by rw [e])
theorem usort_congr {xs ys : List D} (k : Kin xs) (k' : Kin ys) (h : ∀ z, z ∈ xs ↔ z ∈ ys) : usortD xs = usortD ys :=
  usort_one k' (fun z => (mem_usort k z).trans (h z)) (nodup_up (usort_up k)) ((usort_up k).imp fun {a b} q => by rw [le_eq, lt_as q]; rfl)
theorem ordS_congr {l l' : List Str} (h : ∀ x, x ∈ l ↔ x ∈ l') : ordS l = ordS l' := by
  unfold ordS
  rw [usort_congr (kin_str l) (kin_str l') fun z => ?_]
  constructor
  · intro q
    obtain ⟨y, hy, rfl⟩ := List.mem_map.mp q
    exact List.mem_map_of_mem ((h y).mp hy)
  · intro q
    obtain ⟨y, hy, rfl⟩ := List.mem_map.mp q
    exact List.mem_map_of_mem ((h y).mpr hy)
theorem setOk_str {l : List Str} (h : l.length < 64) : setOk (l.map PyData.str) = true := by
  unfold setOk
  simp only [Bool.and_eq_true, decide_eq_true_eq, List.length_map, Bool.or_eq_true, List.all_eq_true]
  refine ⟨⟨h, .inl fun x hx => ?_⟩, fun x hx y hy => (kin_str l).al x hx y hy⟩
  obtain ⟨c, _, rfl⟩ := List.mem_map.mp hx
  rfl
theorem sset_str {l : List Str} (h : l.length < 64) : f1D .sset (.list (l.map PyData.str)) = some (.fr (.list ((ordS l).map PyData.str))) := by
  show (if setOk (l.map PyData.str) = true then some (usortD (l.map PyData.str)) else none).map (fun ys => Vl.fr (.list ys)) = _
  rw [if_pos (setOk_str h), ordS_map]; rfl
theorem uins_len (x : D) : ∀ l : List D, (uinsD x l).length ≤ l.length + 1
  | [] => by simp [uinsD]
  | y :: l => by
    have := uins_len x l
    unfold uinsD
    split
    · simp only [List.length_cons]; omega
    · split
      · simp only [List.length_cons]; omega
      · simp only [List.length_cons]; omega
theorem usort_len : ∀ l : List D, (usortD l).length ≤ l.length
  | [] => Nat.le_refl _
  | x :: l => by
    have h1 := usort_len l
    have h2 := uins_len x (usortD l)
    show (uinsD x (usortD l)).length ≤ _
    rw [List.length_cons]; omega
theorem ordS_len (l : List Str) : (ordS l).length ≤ l.length := by
  have := usort_len (l.map PyData.str)
  unfold ordS
  rw [List.length_map]
  rwa [List.length_map] at this
/-! ### webs -/
abbrev Edge := Str × Str × Str
def eD (c : Bool) (e : Edge) : D := sq c [.str e.1, .str e.2.1, .str e.2.2]
def webD (b c : Bool) (es : List Edge) : D := sq b (es.map (eD c))
def ends2 (es : List Edge) : List Str := es.flatMap fun e => [e.1, e.2.2]
def nms (es : List Edge) : List Str := ordS (ends2 es)
theorem len_ends2 : ∀ es : List Edge, (ends2 es).length = 2 * es.length
  | [] => rfl
  | e :: es => by
    have := len_ends2 es
    unfold ends2 at this ⊢
    rw [List.flatMap_cons, List.length_append, this, List.length_cons, List.length_cons, List.length_cons, List.length_nil]; omega
theorem map_ends2 : ∀ es : List Edge, (es.flatMap fun e => [PyData.str e.1, .str e.2.2]) = (ends2 es).map PyData.str
  | [] => rfl
  | e :: es => by
    have := map_ends2 es
    unfold ends2 at this ⊢
    rw [List.flatMap_cons, this, List.flatMap_cons, List.map_append]; rfl
theorem mem_nms {es : List Edge} {x : Str} : x ∈ nms es ↔ ∃ e ∈ es, x = e.1 ∨ x = e.2.2 := by
  unfold nms ends2
  rw [mem_ordS, List.mem_flatMap]
  simp
theorem ix0 (c : Bool) (e : Edge) : ixD (eD c e) (.int 0) = some (.str e.1) := by cases c <;> rfl
theorem ix1 (c : Bool) (e : Edge) : ixD (eD c e) (.int 1) = some (.str e.2.1) := by cases c <;> rfl
theorem ix2 (c : Bool) (e : Edge) : ixD (eD c e) (.int 2) = some (.str e.2.2) := by cases c <;> rfl
theorem walk_web (b c : Bool) (es : List Edge) : walkD (webD b c es) = some (es.map (eD c)) := by cases b <;> rfl
section
variable {gl : Nat → Option D} {cf : Cf} {W : Nat}
/-- set_of: some -/
def T_set_of : Ss := (.cons (.ret (.f1 .tuple (.f1 .sset (.v 0)))) .nil)
theorem set_of_ok {l : List Str} (h : l.length < 64) (st : Sto) : out (execs gl cf W T_set_of [.sh (.list (l.map PyData.str))] st) = some (.d (.tuple ((ordS l).map PyData.str)), st) :=
  o_ret (ev_f1 (bor_E rfl (ev_f1 (bor_sh rfl) (sset_str h)) rfl) rfl)
/-- standings: web line name -/
def T_standings (c_set_of : Nat) : Ss := (.cons (.ret (.call c_set_of (.cons (.lc2 [1, 2] [2] (.v 2) (.n 1) (.of (.v 0)) .no (.n 2) (.of (.tup (.cons (.ix (.v 1) (.int 0)) (.cons (.ix (.v 1) (.int 2)) .nil)))) .no) .nil))) .nil)
theorem standings_ok {c : Nat} (b d : Bool) (es : List Edge) (st : Sto) (h : es.length ≤ 30) (hc : ∀ l : List Str, l.length < 64 → cf c [.d (.list (l.map PyData.str))] st = some (.d (.tuple ((ordS l).map PyData.str)), st)) :
    out (execs gl cf W (T_standings c) [.sh (webD b d es), .no, .no] st) = some (.d (.tuple ((nms es).map PyData.str)), st) := by
  refine o_ret (ev_call (eva_cons (lc2_pair (xs := es) (a := eD d) (f := fun e => .str e.1) (g := fun e => .str e.2.2) (evi_of (bor_sh rfl) (walk_web _ _ _)) (fun e _ => rfl) (fun e _ => toD_E (ev_ix (bor_sh rfl) (bor_E rfl rfl rfl) (ix0 d e)) rfl) (fun e _ => toD_E (ev_ix (bor_sh rfl) (bor_E rfl rfl rfl) (ix2 d e)) rfl) (fun e _ => by show (2 : Nat) < 3; decide) (by show _ ≤ 16777216; omega)) eva_nil) ?_)
  have := hc (ends2 es) (by rw [len_ends2]; omega)
  rw [← map_ends2] at this
  exact this
/-- l_homes: web_so own -/
def T_l_homes : Ss := (.cons (.ret (.f1 .sset (.bin .add (.lc [1] (.ix (.v 1) (.int 0)) (.n 1) (.of (.v 0)) .no) (.lc [1] (.ix (.v 1) (.int 2)) (.n 1) (.of (.v 0)) .no)))) .nil)
theorem homes_ok (b d : Bool) (es : List Edge) (st : Sto) (h : es.length ≤ 30) : out (execs gl cf W T_l_homes [.sh (webD b d es), .no] st) = some (.fr (.list ((nms es).map PyData.str)), st) := by
  have hl : es.length ≤ SL := by show _ ≤ 16777216; omega
  have hb : binD .add (.list (es.map fun e => .str e.1)) (.list (es.map fun e => .str e.2.2)) = some (.fr (.list ((es.map (·.1) ++ es.map (·.2.2)).map PyData.str))) := by
    show (if (es.map fun e => PyData.str e.1).length + (es.map fun e => PyData.str e.2.2).length ≤ SL then some (Vl.fr (.list ((es.map fun e => PyData.str e.1) ++ es.map fun e => PyData.str e.2.2))) else none) = _
    rw [if_pos (by rw [List.length_map, List.length_map]; show _ ≤ 16777216; omega), List.map_append, List.map_map, List.map_map]; rfl
  refine o_ret (ev_f1 (bor_E rfl (ev_bin (bor_E rfl (lcN (xs := es) (a := eD d) (f := fun e => .str e.1) (evi_of (bor_sh rfl) (walk_web _ _ _)) (fun e _ => rfl) (fun e _ => toD_E (ev_ix (bor_sh rfl) (bor_E rfl rfl rfl) (ix0 d e)) rfl) hl) rfl) (bor_E rfl (lcN (xs := es) (a := eD d) (f := fun e => .str e.2.2) (evi_of (bor_sh rfl) (walk_web _ _ _)) (fun e _ => rfl) (fun e _ => toD_E (ev_ix (bor_sh rfl) (bor_E rfl rfl rfl) (ix2 d e)) rfl) hl) rfl) hb) rfl) ?_)
  rw [sset_str (by rw [List.length_append, List.length_map, List.length_map]; omega)]
  unfold nms
  rw [ordS_congr (l' := ends2 es) fun x => ?_]
  unfold ends2
  rw [List.mem_append, List.mem_map, List.mem_map, List.mem_flatMap]
  constructor
  · rintro (⟨e, h1, rfl⟩ | ⟨e, h1, rfl⟩)
    · exact ⟨e, h1, by simp⟩
    · exact ⟨e, h1, by simp⟩
  · rintro ⟨e, h1, h2⟩
    rcases List.mem_cons.mp h2 with h2 | h2
    · exact .inl ⟨e, h1, h2.symm⟩
    · exact .inr ⟨e, h1, (List.mem_singleton.mp h2).symm⟩
end
end Lib

end
section
set_option Elab.async false
set_option linter.all false
set_option maxRecDepth 100000
set_option maxHeartbeats 4000000
namespace Lib
open PySem Pi
local macro_rules | `(tactic| walk_at "po") => `(tactic| first
  | exact addI _ _ | exact subI _ _
  | exact gt_int _ _ | exact lt_int _ _ | exact ge_int _ _ | exact le_int _ _ | exact eq_int _ _ | exact eq_str _ _
  | exact mulR ⟨by omega, by omega⟩ | exact mulL ⟨by omega, by omega⟩ | exact modP (by omega) | exact fdivP (by omega) (by first | decide +kernel | exact log2_small (by omega))
  | exact rfl)
local macro_rules | `(tactic| walk_at "pe") => `(tactic| repeat' (first
  | exact bor_sh rfl | exact bor_ow rfl | exact ev_sh rfl | exact ev_int | exact ev_str | exact ev_bl | exact ev_non | exact evs_nil | exact eva_nil
  | (apply bor_E rfl)
  | (apply ev_bin) | (apply ev_f1) | (apply ev_f2)
  | (apply ev_ix) | (apply ev_cmp) | (apply ev_neg)
  | (apply ev_bx)
  | (apply toD_E)
  | (apply evs_cons) | (apply eva_cons)
  | assumption | walk_at "po"))
/-! ### drawing -/
section
variable {gl : Nat → Option D} {cf : Cf} {W : Nat}
/-- l_take: box_here size_so once far again some -/
def T_l_take : Ss := (.cons (.ite (.cmp .gt (.bx 0 (.int 0)) (.int 0)) (.cons (.asg (.n 5) (.bin .mod (.f1 .int (.bx 0 (.int 0))) (.v 1))) (.cons (.stix 0 (.int 0) (.bin .fdiv (.bx 0 (.int 0)) (.v 1))) (.cons (.ret (.v 5)) .nil))) .nil) (.cons (.stix 0 (.int 2) (.bin .add (.bx 0 (.int 2)) (.int 1))) (.cons (.asg (.n 2) (.bin .mod (.f1 .int (.bin .mul (.bin .add (.bx 0 (.int 1)) (.bin .mul (.int 48271) (.bx 0 (.int 2)))) (.bin .add (.int 39373) (.bx 0 (.int 2))))) (.int 2147483647))) (.cons (.asg (.n 3) (.bin .add (.bin .mod (.f1 .int (.v 2)) (.int 40009)) (.int 7))) (.cons (.asg (.n 4) (.bin .mod (.f1 .int (.bin .mul (.bin .add (.bin .add (.v 2) (.bx 0 (.int 2))) (.bin .fdiv (.bx 0 (.int 1)) (.int 1000003))) (.v 3))) (.int 2147483629))) (.cons (.ret (.bin .mod (.f1 .int (.bin .fdiv (.bin .mod (.f1 .int (.bin .add (.bin .mul (.v 4) (.int 48271)) (.v 2))) (.int 2147483587)) (.int 64))) (.v 1))) .nil))))))
def onceV (b c : Int) : Int := (b + 48271 * c) * (39373 + c) % 2147483647
def againV (b c : Int) : Int := (onceV b c + c + b / 1000003) * (onceV b c % 40009 + 7) % 2147483629
def drawV (b c : Int) : Int := (againV b c * 48271 + onceV b c) % 2147483587 / 64
theorem take_ok (q n s : Nat) (hs : 0 < s) (hs2 : s < 2 ^ 60) (hq : q < 2 ^ 60) (st : Sto) (hb : BoxOk q st n) :
    ∃ v st', v < s ∧ out (execs gl cf W T_l_take [.rf n, .sh (.int (s : Nat)), .no, .no, .no, .no] st) = some (.d (.int (v : Nat)), st') ∧ BoxOk (q + 1) st' n ∧ st'.length = st.length := by
  obtain ⟨a, b, c, h1, h2, h3, h4⟩ := hb
  by_cases ha : 0 < a
  · refine ⟨(a % (s : Nat)).toNat, st.set n [.int (a / (s : Nat)), .int b, .int c], by have := Int.emod_lt_of_pos a (b := (s : Nat)) (by omega); have := Int.emod_nonneg a (b := (s : Nat)) (by omega); omega, ?_, ⟨_, _, _, set_get h1 _, h2, by omega, scal_set h4 n rfl⟩, by simp⟩
    have e : (((a % (s : Nat)).toNat : Nat) : Int) = a % (s : Nat) := by have := Int.emod_nonneg a (b := (s : Nat)) (by omega); omega
    rw [e]
    refine o_iteT (s := st) (tru_E (x := .bool (decide (0 < a))) ?_ (by rw [decide_eq_true ha]; rfl)) ?_
    · walk_at "pe"
    refine o_asg (x := .int (a % (s : Nat))) (s1 := st) ?_ rfl ?_
    · walk_at "pe"
    refine o_stixR (y := .int (a / (s : Nat))) (kx := .int 0) (s := st) (s1 := st) ?_ ?_ rfl h1 rfl ?_
    · walk_at "pe"
    · walk_at "pe"
    exact o_ret (ev_sh rfl)
  · have e0 : ∃ v : Nat, v < s ∧ drawV b (c + 1) % (s : Nat) = (v : Nat) := ⟨(drawV b (c + 1) % (s : Nat)).toNat, by have := Int.emod_lt_of_pos (drawV b (c + 1)) (b := (s : Nat)) (by omega); have := Int.emod_nonneg (drawV b (c + 1)) (b := (s : Nat)) (by omega); omega, by have := Int.emod_nonneg (drawV b (c + 1)) (b := (s : Nat)) (by omega); omega⟩
    obtain ⟨v, hv, ev⟩ := e0
    refine ⟨v, st.set n [.int a, .int b, .int (c + 1)], hv, ?_, ⟨_, _, _, set_get h1 _, by omega, by omega, scal_set h4 n rfl⟩, by simp⟩
    rw [← ev]
    have h1' := set_get h1 [.int a, .int b, .int (c + 1)]
    refine o_iteF (s := st) (tru_E (x := .bool (decide (0 < a))) ?_ (by rw [decide_eq_false ha]; rfl)) ?_
    · walk_at "pe"
    refine o_stixR (y := .int (c + 1)) (kx := .int 2) (s := st) (s1 := st) ?_ ?_ rfl h1 rfl ?_
    · walk_at "pe"
    · walk_at "pe"
    show out (execs _ _ _ _ _ (st.set n [.int a, .int b, .int (c + 1)])) = _
    generalize st.set n [.int a, .int b, .int (c + 1)] = st' at h1' ⊢
    have hc : -(2 ^ 64) < c + 1 ∧ c + 1 < 2 ^ 63 := ⟨by omega, by omega⟩
    refine o_asg (x := .int (onceV b (c + 1))) (s1 := st') ?_ rfl ?_
    · walk_at "pe"
    have ho : 0 ≤ onceV b (c + 1) ∧ onceV b (c + 1) < 2147483647 := ⟨Int.emod_nonneg _ (by decide), Int.emod_lt_of_pos _ (by decide)⟩
    refine o_asg (x := .int (onceV b (c + 1) % 40009 + 7)) (s1 := st') ?_ rfl ?_
    · walk_at "pe"
    have hf : -(2 ^ 64) < onceV b (c + 1) % 40009 + 7 ∧ onceV b (c + 1) % 40009 + 7 < 2 ^ 63 := ⟨by omega, by omega⟩
    refine o_asg (x := .int (againV b (c + 1))) (s1 := st') ?_ rfl ?_
    · walk_at "pe"
    refine o_ret ?_
    walk_at "pe"
/-- what a law's own take does -/
def Takes (cf : Cf) (c : Nat) : Prop := ∀ (q n s : Nat), 0 < s → s < 2 ^ 60 → q < 2 ^ 60 → ∀ st : Sto, BoxOk q st n →
  ∃ v st', v < s ∧ cf c [.rf n, .d (.int (s : Nat))] st = some (.d (.int (v : Nat)), st') ∧ BoxOk (q + 1) st' n ∧ st'.length = st.length
/-- l_of: box_here goods_so -/
def T_l_of (c_l_take : Nat) : Ss := (.cons (.ret (.ix (.v 1) (.call c_l_take (.cons (.v 0) (.cons (.f1 .len (.v 1)) .nil))))) .nil)
theorem of_ok {c : Nat} (ht : Takes cf c) (b : Bool) (xs : List D) (h0 : 0 < xs.length) (hl : xs.length < 2 ^ 60) (q n : Nat) (hq : q < 2 ^ 60) (st : Sto) (hb : BoxOk q st n) :
    ∃ x st', x ∈ xs ∧ out (execs gl cf W (T_l_of c) [.rf n, .sh (sq b xs)] st) = some (.d x, st') ∧ BoxOk (q + 1) st' n ∧ st'.length = st.length := by
  obtain ⟨v, st', h1, h2, h3, h4⟩ := ht q n xs.length h0 hl hq st hb
  have hx : xs[v]? = some (xs[v]'h1) := List.getElem?_eq_getElem h1
  refine ⟨xs[v]'h1, st', List.getElem_mem _, o_ret (ev_ix (bor_sh rfl) (bor_E rfl (ev_call (eva_cons (ev_rfQ rfl) (eva_cons (ev_f1 (bor_sh rfl) (len_sq _ _)) eva_nil)) h2) rfl) ?_), h3, h4⟩
  cases b <;> exact atI_nat hx
/-- l_pick: box_here goods_so count_so turn pool_so found -/
def T_l_pick (c_l_take : Nat) : Ss := (.cons (.par 4 true (.f1 .list (.v 1)) 5 true (.lst .nil)) (.cons (.for' (.n 3) (.rng1 (.f2 .min (.f1 .int (.v 2)) (.f1 .len (.v 4)))) (.cons (.apop 5 4 (.call c_l_take (.cons (.v 0) (.cons (.f1 .len (.v 4)) .nil)))) .nil)) (.cons (.reto 5) .nil)))
theorem pick_ok {c : Nat} (ht : Takes cf c) (b : Bool) (xs : List D) (m : Nat) (hl : xs.length < 1000) (hm : m < 1000) (q n : Nat) (hq : q < 2 ^ 50) (st : Sto) (hb : BoxOk q st n) :
    ∃ ys st', (∀ y ∈ ys, y ∈ xs) ∧ ys.length = min m xs.length ∧ out (execs gl cf W (T_l_pick c) [.rf n, .sh (sq b xs), .sh (.int (m : Nat)), .no, .no, .no] st) = some (.fr (.list ys), st') ∧ BoxOk (q + m) st' n ∧ st'.length = st.length := by
  have hmin : f2D .min (.int (m : Nat)) (.int ((xs.length : Nat) : Int)) = some (.d (.int ((min m xs.length : Nat) : Int))) := by
    show some (Vl.d (.int (if ((xs.length : Nat) : Int) < (m : Nat) then ((xs.length : Nat) : Int) else (m : Nat)))) = _
    by_cases h : xs.length < m
    · rw [if_pos (by omega), Nat.min_eq_right (by omega)]
    · rw [if_neg (by omega), Nat.min_eq_left (by omega)]
  have hpar : exec gl cf W (.par 4 true (.f1 .list (.v 1)) 5 true (.lst .nil)) [.rf n, .sh (sq b xs), .sh (.int (m : Nat)), .no, .no, .no] st = some (.nx, [.rf n, .sh (sq b xs), .sh (.int (m : Nat)), .no, .ow (.list xs), .ow (.list [])], st) :=
    ex_par (w := .fr (.list xs)) (u := .fr (.list [])) (a := .ow (.list xs)) (b := .ow (.list [])) (ev_f1 (bor_sh rfl) (by cases b <;> rfl)) rfl rfl rfl ⟨by decide, by show (4 : Nat) < 6; decide, by show (5 : Nat) < 6; decide⟩
  obtain ⟨e2, s2, hf, ys, zs, x, he, hy1, hy2, hz1, hz2, hz3, hb2, hl2⟩ := forL_inv (bd := bindT (.n 3)) (body := fun e1 s1 => execs gl cf W (.cons (.apop 5 4 (.call c (.cons (.v 0) (.cons (.f1 .len (.v 4)) .nil)))) .nil) e1 s1)
    (ys := (List.range (min m xs.length)).map fun i => .int ((i : Nat) : Int))
    (fun pre env s => ∃ (ys zs : List D) (x : Slot), env = [.rf n, .sh (sq b xs), .sh (.int (m : Nat)), x, .ow (.list zs), .ow (.list ys)] ∧ (∀ y ∈ ys, y ∈ xs) ∧ (∀ y ∈ zs, y ∈ xs) ∧ ys.length = pre.length ∧ zs.length + pre.length = xs.length ∧ pre.length ≤ min m xs.length ∧ BoxOk (q + pre.length) s n ∧ s.length = st.length)
    (fun pre x post env s e ⟨ys, zs, x0, he, hy1, hy2, hz1, hz2, hz3, hb2, hl2⟩ => by
      subst he
      have hlen := congrArg List.length e
      rw [List.length_map, List.length_range, List.length_append, List.length_cons] at hlen
      obtain ⟨v, s', t1, t2, t3, t4⟩ := ht (q + pre.length) n zs.length (by omega) (by omega) (by omega) s hb2
      have hv : zs[v]? = some (zs[v]'t1) := List.getElem?_eq_getElem t1
      refine ⟨[.rf n, .sh (sq b xs), .sh (.int (m : Nat)), .sh x, .ow (.list zs), .ow (.list ys)], [.rf n, .sh (sq b xs), .sh (.int (m : Nat)), .sh x, .ow (.list (zs.eraseIdx v)), .ow (.list (ys ++ [zs[v]'t1]))], s', rfl, .inl (exs_cons ?_ rfl), ys ++ [zs[v]'t1], zs.eraseIdx v, .sh x, rfl, fun y hy => ?_, fun y hy => hy2 y (List.mem_of_mem_eraseIdx hy), ?_, ?_, ?_, ?_, by omega⟩
      · have hk : bor (.call c (.cons (.v 0) (.cons (.f1 .len (.v 4)) .nil))) (ev gl cf (.call c (.cons (.v 0) (.cons (.f1 .len (.v 4)) .nil))) [.rf n, .sh (sq b xs), .sh (.int (m : Nat)), .sh x, .ow (.list zs), .ow (.list ys)] s) [.rf n, .sh (sq b xs), .sh (.int (m : Nat)), .sh x, .ow (.list zs), .ow (.list ys)] s = some (.int (v : Nat), s') :=
          bor_E rfl (ev_call (eva_cons (ev_rfQ rfl) (eva_cons (ev_f1 (bor_ow rfl) rfl) eva_nil)) t2) rfl
        exact ex_apop (i := 5) (j := 4) hk rfl rfl ⟨by decide, by show _ < 16777216; omega, by omega, by omega⟩ (ixN_nat' t1) hv
      · rcases List.mem_append.mp hy with hy | hy
        · exact hy1 y hy
        · rw [List.mem_singleton.mp hy]; exact hy2 _ (List.getElem_mem _)
      · rw [List.length_append, List.length_append, hz1]; rfl
      · rw [List.length_eraseIdx_of_lt t1, List.length_append, List.length_singleton]; omega
      · rw [List.length_append, List.length_singleton]; omega
      · rw [List.length_append, List.length_singleton, ← Nat.add_assoc]; exact t3)
    _ [] [.rf n, .sh (sq b xs), .sh (.int (m : Nat)), .no, .ow (.list xs), .ow (.list [])] st rfl ⟨[], xs, .no, rfl, fun _ h => (by cases h), fun _ h => h, rfl, rfl, Nat.zero_le _, hb, rfl⟩
  rw [List.length_map, List.length_range] at hz1 hz3 hb2
  subst he
  refine ⟨ys, s2, hy1, hz1, o_cons hpar ?_, hb2.mono (by omega), hl2⟩
  refine o_cons (ex_for (s := st) (evi_rng1 (n := min m xs.length) (bor_E rfl (ev_f2 (bor_E rfl (ev_f1 (bor_sh rfl) rfl) rfl) (bor_E rfl (ev_f1 (bor_ow rfl) rfl) rfl) hmin) rfl) (by show _ ≤ 16777216; omega)) hf rfl) ?_
  exact o_reto rfl
end
end Lib

end
section
set_option Elab.async false
set_option linter.all false
set_option maxRecDepth 100000
set_option maxHeartbeats 4000000
namespace Lib
open PySem Pi
/-! ### tables -/
def sumN (n : Nat) (h : Nat → Int) : Int := ((List.range n).map h).sum
def vec (b : Bool) (n : Nat) (v : Nat → Int) : D := sq b ((List.range n).map fun i => .int (v i))
def mat (b c : Bool) (n : Nat) (f : Nat → Nat → Int) : D := sq b ((List.range n).map fun i => vec c n (f i))
theorem ix_sq (b : Bool) {xs : List D} {j : Nat} {x : D} (h : xs[j]? = some x) : ixD (sq b xs) (.int (j : Nat)) = some x := by cases b <;> exact atI_nat h
theorem walk_sq (b : Bool) (xs : List D) : walkD (sq b xs) = some xs := by cases b <;> rfl
theorem at_range {n j : Nat} (f : Nat → D) (h : j < n) : ((List.range n).map f)[j]? = some (f j) := by simp [h]
def prod (n : Nat) (f g : Nat → Nat → Int) : Nat → Nat → Int := fun i j => sumN n fun m => f i m * g m j
def one : Nat → Nat → Int := fun i j => if i = j then 1 else 0
def SmM (n : Nat) (f : Nat → Nat → Int) : Prop := ∀ i j, i < n → j < n → Sml (f i j)
section
variable {gl : Nat → Option D} {cf : Cf} {W : Nat}
/-- by_row: numbers table place own row -/
def T_by_row : Ss := (.cons (.ret (.f1 .tuple (.lc [2] (.f1 .sum (.lc [3, 4] (.bin .mul (.v 3) (.ix (.v 4) (.v 2))) (.t (.cons (.n 3) (.cons (.n 4) .nil))) (.zip (.v 0) (.v 1)) .no)) (.n 2) (.rng1 (.f1 .len (.v 1))) .no))) .nil)
theorem by_row_ok (b c : Bool) (n : Nat) (hn : n ≤ 1000) (v : Nat → Int) (f : Nat → Nat → Int) (hv : ∀ i, i < n → Sml (v i)) (st : Sto) :
    out (execs gl cf W T_by_row [.sh (vec b n v), .sh (mat b c n f), .no, .no, .no] st) = some (.d (.tuple ((List.range n).map fun j => .int (sumN n fun i => v i * f i j))), st) := by
  refine out_ret ?_
  have hSL : n ≤ SL := Nat.le_trans hn (by decide)
  refine ev_f1 (bor_E rfl (ev_lc (xs := List.range n) (fun j => .int ((j : Nat) : Int)) (fun j => .int (sumN n fun i => v i * f i j)) ?_ ?_ (by rw [List.length_range]; exact hSL)) rfl) rfl
  · refine evi_rng1 (bor_E rfl (ev_f1 (bor_sh rfl) (len_sq _ _)) ?_) hSL
    rw [List.length_map, List.length_range]; rfl
  · intro j hj
    have hj : j < n := List.mem_range.mp hj
    refine ⟨[.sh (vec b n v), .sh (mat b c n f), .sh (.int ((j : Nat) : Int)), .no, .no], rfl, rfl, ?_⟩
    refine toD_E (w := .d _) (ev_f1 (bor_E rfl (ev_lc (xs := List.range n) (fun i => .tuple [.int (v i), vec c n (f i)]) (fun i => .int (v i * f i j)) ?_ ?_ (by rw [List.length_range]; exact hSL)) rfl) ?_) rfl
    · refine evi_zip (bor_sh rfl) (bor_sh rfl) ?_
      unfold vec mat
      rw [zip_sq, zipD_map]
      rfl
    · intro i hi
      have hi : i < n := List.mem_range.mp hi
      refine ⟨[.sh (vec b n v), .sh (mat b c n f), .sh (.int ((j : Nat) : Int)), .sh (.int (v i)), .sh (vec c n (f i))], rfl, rfl, ?_⟩
      exact toD_E (ev_bin (bor_sh rfl) (bor_E rfl (ev_ix (bor_sh rfl) (bor_sh rfl) (ix_sq c (at_range (fun j => .int (f i j)) hj))) rfl) (mulL (hv i hi))) rfl
    · show (intsD ((List.range n).map fun i => .int (v i * f i j))).map (fun ns => Vl.d (.int ns.sum)) = _
      rw [intsD_map (fun i => v i * f i j)]
      rfl
/-- by_column: table numbers row own far -/
def T_by_column : Ss := (.cons (.ret (.f1 .tuple (.lc [2] (.f1 .sum (.lc [3, 4] (.bin .mul (.v 3) (.v 4)) (.t (.cons (.n 3) (.cons (.n 4) .nil))) (.zip (.v 2) (.v 1)) .no)) (.n 2) (.of (.v 0)) .no))) .nil)
theorem by_column_ok (b c : Bool) (n : Nat) (hn : n ≤ 1000) (v : Nat → Int) (f : Nat → Nat → Int) (hv : ∀ i j, i < n → j < n → Sml (f i j)) (st : Sto) :
    out (execs gl cf W T_by_column [.sh (mat b c n f), .sh (vec c n v), .no, .no, .no] st) = some (.d (.tuple ((List.range n).map fun i => .int (sumN n fun j => f i j * v j))), st) := by
  refine out_ret ?_
  have hSL : n ≤ SL := Nat.le_trans hn (by decide)
  refine ev_f1 (bor_E rfl (ev_lc (xs := List.range n) (fun i => vec c n (f i)) (fun i => .int (sumN n fun j => f i j * v j)) (evi_of (bor_sh rfl) (walk_sq _ _)) ?_ (by rw [List.length_range]; exact hSL)) rfl) rfl
  intro i hi
  have hi : i < n := List.mem_range.mp hi
  refine ⟨[.sh (mat b c n f), .sh (vec c n v), .sh (vec c n (f i)), .no, .no], rfl, rfl, ?_⟩
  refine toD_E (w := .d _) (ev_f1 (bor_E rfl (ev_lc (xs := List.range n) (fun j => .tuple [.int (f i j), .int (v j)]) (fun j => .int (f i j * v j)) ?_ ?_ (by rw [List.length_range]; exact hSL)) rfl) ?_) rfl
  · refine evi_zip (bor_sh rfl) (bor_sh rfl) ?_
    unfold vec
    rw [zip_sq, zipD_map]
  · intro j hj
    have hj : j < n := List.mem_range.mp hj
    refine ⟨[.sh (mat b c n f), .sh (vec c n v), .sh (vec c n (f i)), .sh (.int (f i j)), .sh (.int (v j))], rfl, rfl, ?_⟩
    exact toD_E (ev_bin (bor_sh rfl) (bor_sh rfl) (mulL (hv i j hi hj))) rfl
  · show (intsD ((List.range n).map fun j => .int (f i j * v j))).map (fun ns => Vl.d (.int ns.sum)) = _
    rw [intsD_map (fun j => f i j * v j)]
    rfl
/-- product_of: one other row -/
def T_product_of (c_by_row : Nat) : Ss := (.cons (.ret (.f1 .tuple (.lc [2] (.call c_by_row (.cons (.v 2) (.cons (.v 1) .nil))) (.n 2) (.of (.v 0)) .no))) .nil)
theorem product_ok {r : Nat} (b c d : Bool) (n : Nat) (hn : n ≤ 1000) (f g : Nat → Nat → Int) (st : Sto) (hr : ∀ i, i < n → cf r [.d (vec c n (f i)), .d (mat c d n g)] st = some (.d (vec true n (prod n f g i)), st)) :
    out (execs gl cf W (T_product_of r) [.sh (mat b c n f), .sh (mat c d n g), .no] st) = some (.d (mat true true n (prod n f g)), st) := by
  refine out_ret ?_
  have hSL : n ≤ SL := Nat.le_trans hn (by decide)
  refine ev_f1 (bor_E rfl (ev_lc (xs := List.range n) (fun i => vec c n (f i)) (fun i => vec true n (prod n f g i)) (evi_of (bor_sh rfl) (walk_sq _ _)) ?_ (by rw [List.length_range]; exact hSL)) rfl) rfl
  intro i hi
  have hi : i < n := List.mem_range.mp hi
  refine ⟨[.sh (mat b c n f), .sh (mat c d n g), .sh (vec c n (f i))], rfl, rfl, ?_⟩
  exact toD_E (ev_call (eva_cons (ev_sh rfl) (eva_cons (ev_sh rfl) eva_nil)) (hr i hi)) rfl
/-- unit: size near far -/
def T_unit : Ss := (.cons (.ret (.f1 .tuple (.lc [1] (.f1 .tuple (.lc [2] (.f1 .int (.cmp .eq (.v 1) (.v 2))) (.n 2) (.rng1 (.v 0)) .no)) (.n 1) (.rng1 (.v 0)) .no))) .nil)
theorem unit_ok (n : Nat) (hn : n ≤ 1000) (st : Sto) : out (execs gl cf W T_unit [.sh (.int (n : Nat)), .no, .no] st) = some (.d (mat true true n one), st) := by
  refine out_ret ?_
  have hSL : n ≤ SL := Nat.le_trans hn (by decide)
  refine ev_f1 (bor_E rfl (ev_lc (xs := List.range n) (fun i => .int ((i : Nat) : Int)) (fun i => vec true n (one i)) (evi_rng1 (bor_sh rfl) hSL) ?_ (by rw [List.length_range]; exact hSL)) rfl) rfl
  intro i hi
  refine ⟨[.sh (.int (n : Nat)), .sh (.int ((i : Nat) : Int)), .no], rfl, rfl, ?_⟩
  refine toD_E (ev_f1 (bor_E rfl (ev_lc (xs := List.range n) (fun i => .int ((i : Nat) : Int)) (fun j => .int (one i j)) (evi_rng1 (bor_sh rfl) hSL) ?_ (by rw [List.length_range]; exact hSL)) rfl) rfl) rfl
  intro j hj
  refine ⟨[.sh (.int (n : Nat)), .sh (.int ((i : Nat) : Int)), .sh (.int ((j : Nat) : Int))], rfl, rfl, ?_⟩
  refine toD_E (w := .d (.int (one i j))) (ev_f1 (bor_E rfl (ev_cmp (bor_sh rfl) (bor_sh rfl) (eq_int _ _)) rfl) ?_) rfl
  show some (Vl.d (.int (if decide (((i : Nat) : Int) = ((j : Nat) : Int)) = true then 1 else 0))) = some (Vl.d (.int (one i j)))
  unfold one
  by_cases e : i = j
  · subst e; simp
  · rw [if_neg e, if_neg (by simp; omega)]
/-! ### trees as tuples, as lists -/
/-- tupled: value part -/
def T_tupled (c_tupled : Nat) : Ss := (.cons (.ret (.ite (.isi (.v 0) [.list, .tuple]) (.f1 .tuple (.lc [1] (.call c_tupled (.cons (.v 1) .nil)) (.n 1) (.of (.v 0)) .no)) (.v 0))) .nil)
mutual
def tupD : D → D
  | .list xs => .tuple (tupDs xs)
  | .tuple xs => .tuple (tupDs xs)
  | .none => .none
  | .bool b => .bool b
  | .int i => .int i
  | .str x => .str x
  | .dict ds => .dict ds
def tupDs : List D → List D
  | [] => []
  | x :: xs => tupD x :: tupDs xs
end
theorem tupDs_map : ∀ xs : List D, tupDs xs = xs.map tupD
  | [] => rfl
  | x :: xs => by rw [List.map_cons, ← tupDs_map xs]; rfl
/-- l_lists: matter bit -/
def T_l_lists (c_l_lists : Nat) : Ss := (.cons (.ret (.ite (.isi (.v 0) [.list, .tuple]) (.lc [1] (.call c_l_lists (.cons (.v 1) .nil)) (.n 1) (.of (.v 0)) .no) (.v 0))) .nil)
mutual
def lstD : D → D
  | .list xs => .list (lstDs xs)
  | .tuple xs => .list (lstDs xs)
  | .none => .none
  | .bool b => .bool b
  | .int i => .int i
  | .str x => .str x
  | .dict ds => .dict ds
def lstDs : List D → List D
  | [] => []
  | x :: xs => lstD x :: lstDs xs
end
theorem lstDs_map : ∀ xs : List D, lstDs xs = xs.map lstD
  | [] => rfl
  | x :: xs => by rw [List.map_cons, ← lstDs_map xs]; rfl
theorem tupled_run {P : List Fn} {f : Nat} (hP : P[f]? = some ⟨1, 2, T_tupled f⟩) : ∀ (k : Nat) (x : D) (st : Sto), fine k x = true → run gl P W k f [.d x] st = some (.d (tupD x), st)
  | 0, x, st, h => by cases x <;> simp [fine] at h
  | k + 1, x, st, h => by
    show (match P[f]? with | some F => if 1 = F.np then out (execs gl (run gl P W k) W F.body ([Vl.d x].map slotOf ++ List.replicate (F.nn - F.np) Slot.no) st) else none | none => none) = _
    rw [hP]
    show out (execs gl (run gl P W k) W (T_tupled f) [.sh x, .no] st) = _
    have leaf : (∀ xs, x ≠ .list xs) → (∀ xs, x ≠ .tuple xs) → noDict x = true → out (execs gl (run gl P W k) W (T_tupled f) [.sh x, .no] st) = some (.d x, st) := fun h1 h2 h3 =>
      o_ret (iteF (bor_E rfl (ev_isi (bor_sh rfl) h3) rfl) (by cases x <;> first | rfl | exact absurd rfl (h1 _) | exact absurd rfl (h2 _)) (ev_sh rfl))
    have node : ∀ xs : List D, walkD x = some xs → [Ty.list, Ty.tuple].any (isTy x) = true → noDict x = true → xs.length ≤ SL → (∀ y ∈ xs, fine k y = true) → out (execs gl (run gl P W k) W (T_tupled f) [.sh x, .no] st) = some (.d (.tuple (xs.map tupD)), st) := fun xs hw hy nd hl hf =>
      o_ret (iteT (bor_E rfl (ev_isi (bor_sh rfl) nd) rfl) (by rw [hy]; rfl) (ev_f1 (bor_E rfl (lcN (xs := xs) (a := id) (f := tupD) (by rw [List.map_id]; exact evi_of (bor_sh rfl) hw) (fun y _ => rfl) (fun y hy => toD_E (ev_call (eva_cons (ev_sh rfl) eva_nil) (tupled_run hP k y st (hf y hy))) rfl) hl) rfl) rfl))
    cases x with
    | none => exact leaf (fun _ z => by cases z) (fun _ z => by cases z) rfl
    | bool b => exact leaf (fun _ z => by cases z) (fun _ z => by cases z) rfl
    | str b => exact leaf (fun _ z => by cases z) (fun _ z => by cases z) rfl
    | int i => exact leaf (fun _ z => by cases z) (fun _ z => by cases z) rfl
    | list xs =>
      simp only [fine, Bool.and_eq_true, decide_eq_true_eq, List.all_eq_true] at h
      rw [show tupD (.list xs) = .tuple (xs.map tupD) from congrArg PyData.tuple (tupDs_map xs)]
      exact node xs rfl rfl rfl h.1 h.2
    | tuple xs =>
      simp only [fine, Bool.and_eq_true, decide_eq_true_eq, List.all_eq_true] at h
      rw [show tupD (.tuple xs) = .tuple (xs.map tupD) from congrArg PyData.tuple (tupDs_map xs)]
      exact node xs rfl rfl rfl h.1 h.2
    | dict _ => simp [fine] at h
theorem lists_run {P : List Fn} {f : Nat} (hP : P[f]? = some ⟨1, 2, T_l_lists f⟩) : ∀ (k : Nat) (x : D) (st : Sto), fine k x = true → ∃ w, run gl P W k f [.d x] st = some (w, st) ∧ w.toD = some (lstD x)
  | 0, x, st, h => by cases x <;> simp [fine] at h
  | k + 1, x, st, h => by
    show ∃ w, (match P[f]? with | some F => if 1 = F.np then out (execs gl (run gl P W k) W F.body ([Vl.d x].map slotOf ++ List.replicate (F.nn - F.np) Slot.no) st) else none | none => none) = some (w, st) ∧ w.toD = some (lstD x)
    rw [hP]
    show ∃ w, out (execs gl (run gl P W k) W (T_l_lists f) [.sh x, .no] st) = some (w, st) ∧ w.toD = some (lstD x)
    have leaf : (∀ xs, x ≠ .list xs) → (∀ xs, x ≠ .tuple xs) → noDict x = true → out (execs gl (run gl P W k) W (T_l_lists f) [.sh x, .no] st) = some (.d x, st) := fun h1 h2 h3 =>
      o_ret (iteF (bor_E rfl (ev_isi (bor_sh rfl) h3) rfl) (by cases x <;> first | rfl | exact absurd rfl (h1 _) | exact absurd rfl (h2 _)) (ev_sh rfl))
    have node : ∀ xs : List D, walkD x = some xs → [Ty.list, Ty.tuple].any (isTy x) = true → noDict x = true → xs.length ≤ SL → (∀ y ∈ xs, fine k y = true) → out (execs gl (run gl P W k) W (T_l_lists f) [.sh x, .no] st) = some (.fr (.list (xs.map lstD)), st) := fun xs hw hy nd hl hf =>
      o_ret (iteT (bor_E rfl (ev_isi (bor_sh rfl) nd) rfl) (by rw [hy]; rfl) (lcN (xs := xs) (a := id) (f := lstD) (by rw [List.map_id]; exact evi_of (bor_sh rfl) hw) (fun y _ => rfl) (fun y hy => by
        obtain ⟨w, h1, h2⟩ := lists_run hP k y st (hf y hy)
        exact toD_E (ev_call (eva_cons (ev_sh rfl) eva_nil) h1) h2) hl))
    cases x with
    | none => exact ⟨_, leaf (fun _ z => by cases z) (fun _ z => by cases z) rfl, rfl⟩
    | bool b => exact ⟨_, leaf (fun _ z => by cases z) (fun _ z => by cases z) rfl, rfl⟩
    | str b => exact ⟨_, leaf (fun _ z => by cases z) (fun _ z => by cases z) rfl, rfl⟩
    | int i => exact ⟨_, leaf (fun _ z => by cases z) (fun _ z => by cases z) rfl, rfl⟩
    | list xs =>
      simp only [fine, Bool.and_eq_true, decide_eq_true_eq, List.all_eq_true] at h
      exact ⟨_, node xs rfl rfl rfl h.1 h.2, by rw [← lstDs_map]; rfl⟩
    | tuple xs =>
      simp only [fine, Bool.and_eq_true, decide_eq_true_eq, List.all_eq_true] at h
      exact ⟨_, node xs rfl rfl rfl h.1 h.2, by rw [← lstDs_map]; rfl⟩
    | dict _ => simp [fine] at h
end
/-! matrices on 0..n-1 -/
theorem sumN_zero (h : Nat → Int) : sumN 0 h = 0 := rfl
theorem sumN_succ (n : Nat) (h : Nat → Int) : sumN (n + 1) h = sumN n h + h n := by
  unfold sumN
  rw [List.range_succ, List.map_append, List.sum_append]
  simp
theorem sumN_congr {f g : Nat → Int} : ∀ {n : Nat}, (∀ i, i < n → f i = g i) → sumN n f = sumN n g
  | 0, _ => rfl
  | n + 1, h => by rw [sumN_succ, sumN_succ, sumN_congr fun i hi => h i (by omega), h n (by omega)]
theorem sumN_nil {f : Nat → Int} : ∀ {n : Nat}, (∀ i, i < n → f i = 0) → sumN n f = 0
  | 0, _ => rfl
  | n + 1, h => by rw [sumN_succ, sumN_nil fun i hi => h i (by omega), h n (by omega)]; rfl
theorem sumN_add (f g : Nat → Int) : ∀ n : Nat, sumN n (fun i => f i + g i) = sumN n f + sumN n g
  | 0 => rfl
  | n + 1 => by rw [sumN_succ, sumN_succ, sumN_succ, sumN_add f g n]; omega
theorem sumN_mul (c : Int) (f : Nat → Int) : ∀ n : Nat, sumN n (fun i => c * f i) = c * sumN n f
  | 0 => by simp [sumN_zero]
  | n + 1 => by rw [sumN_succ, sumN_succ, sumN_mul c f n, Int.mul_add]
theorem sumN_mulr (c : Int) (f : Nat → Int) (n : Nat) : sumN n (fun i => f i * c) = sumN n f * c := by
  rw [Int.mul_comm, ← sumN_mul]
  exact sumN_congr fun i _ => Int.mul_comm _ _
theorem sumN_swap (h : Nat → Nat → Int) (m : Nat) : ∀ n : Nat, sumN n (fun i => sumN m (fun j => h i j)) = sumN m (fun j => sumN n (fun i => h i j))
  | 0 => by rw [sumN_zero]; exact (sumN_nil fun _ _ => rfl).symm
  | n + 1 => by
    rw [sumN_succ, sumN_swap h m n, ← sumN_add]
    exact sumN_congr fun j _ => (sumN_succ n fun i => h i j).symm
theorem sumN_pick (g : Nat → Int) (i : Nat) : ∀ n : Nat, sumN n (fun m => (if i = m then 1 else 0) * g m) = if i < n then g i else 0
  | 0 => rfl
  | n + 1 => by
    rw [sumN_succ, sumN_pick g i n]
    by_cases h : i = n
    · subst h; simp
    · by_cases h2 : i < n
      · rw [if_pos h2, if_neg h, if_pos (by omega)]; simp
      · rw [if_neg h2, if_neg h, if_neg (by omega)]; simp
def Eqm (n : Nat) (f g : Nat → Nat → Int) : Prop := ∀ i j, i < n → j < n → f i j = g i j
theorem Eqm.rfl {n : Nat} {f : Nat → Nat → Int} : Eqm n f f := fun _ _ _ _ => Eq.refl _
theorem Eqm.symm {n : Nat} {f g : Nat → Nat → Int} (h : Eqm n f g) : Eqm n g f := fun i j a b => (h i j a b).symm
theorem Eqm.trans {n : Nat} {f g e : Nat → Nat → Int} (h : Eqm n f g) (h' : Eqm n g e) : Eqm n f e := fun i j a b => (h i j a b).trans (h' i j a b)
theorem prod_congr {n : Nat} {f f' g g' : Nat → Nat → Int} (h : Eqm n f f') (h' : Eqm n g g') : Eqm n (prod n f g) (prod n f' g') := fun i j hi hj =>
  sumN_congr fun m hm => by rw [h i m hi hm, h' m j hm hj]
theorem prod_assoc (n : Nat) (f g e : Nat → Nat → Int) : prod n (prod n f g) e = prod n f (prod n g e) := by
  funext i j
  show sumN n (fun m => sumN n (fun l => f i l * g l m) * e m j) = sumN n fun l => f i l * sumN n fun m => g l m * e m j
  rw [show (fun m => sumN n (fun l => f i l * g l m) * e m j) = fun m => sumN n fun l => f i l * (g l m * e m j) from funext fun m => by
    rw [← sumN_mulr]; exact sumN_congr fun l _ => Int.mul_assoc _ _ _]
  rw [sumN_swap]
  exact sumN_congr fun l _ => sumN_mul _ _ _
theorem one_prod (n : Nat) (g : Nat → Nat → Int) : Eqm n (prod n one g) g := fun i j hi hj => by
  show sumN n (fun m => (if i = m then 1 else 0) * g m j) = _
  rw [sumN_pick (fun m => g m j) i n, if_pos hi]
theorem prod_one (n : Nat) (g : Nat → Nat → Int) : Eqm n (prod n g one) g := fun i j hi hj => by
  show sumN n (fun m => g i m * (if m = j then 1 else 0)) = _
  rw [show (fun m => g i m * (if m = j then (1 : Int) else 0)) = fun m => (if j = m then 1 else 0) * g i m from funext fun m => by
    rw [Int.mul_comm]; by_cases h : m = j
    · rw [if_pos h, if_pos h.symm]
    · rw [if_neg h, if_neg fun z => h z.symm]]
  rw [sumN_pick (fun m => g i m) j n, if_pos hj]
/-- the powers -/
def pw (n : Nat) (f : Nat → Nat → Int) : Nat → Nat → Nat → Int
  | 0 => one
  | m + 1 => prod n (pw n f m) f
theorem pw_add (n : Nat) (f : Nat → Nat → Int) (a : Nat) : ∀ b, Eqm n (prod n (pw n f a) (pw n f b)) (pw n f (a + b))
  | 0 => prod_one n _
  | b + 1 => by
    show Eqm n (prod n (pw n f a) (prod n (pw n f b) f)) (prod n (pw n f (a + b)) f)
    rw [← prod_assoc]
    exact prod_congr (pw_add n f a b) .rfl
def powF (n : Nat) : Nat → (Nat → Nat → Int) → (Nat → Nat → Int) → Nat → (Nat → Nat → Int)
  | 0, f, _, _ => f
  | j + 1, f, b, r => if r = 0 then f else powF n j (if r % 2 = 1 then prod n f b else f) (prod n b b) (r / 2)
def powOk (n : Nat) : Nat → (Nat → Nat → Int) → (Nat → Nat → Int) → Nat → Prop
  | 0, _, _, r => r = 0
  | j + 1, f, b, r => r = 0 ∨ (SmM n f ∧ SmM n b ∧ powOk n j (if r % 2 = 1 then prod n f b else f) (prod n b b) (r / 2))
theorem powF_pw (n : Nat) (F : Nat → Nat → Int) : ∀ (j : Nat) (f b : Nat → Nat → Int) (r a d : Nat), Eqm n f (pw n F a) → Eqm n b (pw n F d) → r < 2 ^ j → Eqm n (powF n j f b r) (pw n F (a + d * r))
  | 0, f, b, r, a, d, hf, _, hr => by
    have : r = 0 := by omega
    subst this
    exact hf
  | j + 1, f, b, r, a, d, hf, hb, hr => by
    unfold powF
    by_cases h : r = 0
    · subst h; rw [if_pos (Eq.refl _)]; exact hf
    · rw [if_neg h]
      have hb2 : Eqm n (prod n b b) (pw n F (d + d)) := (prod_congr hb hb).trans (pw_add n F d d)
      have hr2 : r / 2 < 2 ^ j := by rw [Nat.pow_succ] at hr; omega
      by_cases o : r % 2 = 1
      · rw [if_pos o]
        have hf2 : Eqm n (prod n f b) (pw n F (a + d)) := (prod_congr hf hb).trans (pw_add n F a d)
        have := powF_pw n F j _ _ (r / 2) (a + d) (d + d) hf2 hb2 hr2
        have e : a + d + (d + d) * (r / 2) = a + d * r := by
          have h1 : r = 2 * (r / 2) + 1 := by omega
          generalize r / 2 = q at *
          subst h1
          rw [Nat.mul_add, Nat.mul_one, ← Nat.two_mul d, Nat.mul_comm 2 d, Nat.mul_assoc]
          omega
        rwa [e] at this
      · rw [if_neg o]
        have := powF_pw n F j _ _ (r / 2) a (d + d) hf hb2 hr2
        have e : a + (d + d) * (r / 2) = a + d * r := by
          have h1 : r = 2 * (r / 2) := by omega
          generalize r / 2 = q at *
          subst h1
          rw [← Nat.two_mul d, Nat.mul_comm 2 d, Nat.mul_assoc]
        rwa [e] at this
theorem mat_congr {b c : Bool} {n : Nat} {f g : Nat → Nat → Int} (h : Eqm n f g) : mat b c n f = mat b c n g := by
  unfold mat vec
  congr 1
  refine List.map_congr_left fun i hi => ?_
  congr 1
  refine List.map_congr_left fun j hj => ?_
  rw [h i j (List.mem_range.mp hi) (List.mem_range.mp hj)]
/-! ### power -/
section
variable {gl : Nat → Option D} {cf : Cf} {W : Nat}
/-- power: table number found base rest -/
def T_power (c_unit c_tupled c_product_of : Nat) : Ss := (.cons (.asg (.t (.cons (.n 2) (.cons (.n 3) (.cons (.n 4) .nil)))) (.tup (.cons (.call c_unit (.cons (.f1 .len (.v 0)) .nil)) (.cons (.call c_tupled (.cons (.v 0) .nil)) (.cons (.v 1) .nil))))) (.cons (.wh (.cmp .gt (.v 4) (.int 0)) (.cons (.ite (.cmp .eq (.bin .mod (.v 4) (.int 2)) (.int 1)) (.cons (.asg (.n 2) (.call c_product_of (.cons (.v 2) (.cons (.v 3) .nil)))) .nil) .nil) (.cons (.asg (.t (.cons (.n 3) (.cons (.n 4) .nil))) (.tup (.cons (.call c_product_of (.cons (.v 3) (.cons (.v 3) .nil))) (.cons (.bin .fdiv (.v 4) (.int 2)) .nil)))) .nil))) (.cons (.ret (.v 2)) .nil)))
/-- power's frame -/
def En (x y : D) (n : Nat) (f b : Nat → Nat → Int) (r : Nat) : Ev := [.sh x, .sh y, .sh (mat true true n f), .sh (mat true true n b), .sh (.int (r : Nat))]
abbrev wT (gl : Nat → Option D) (cf : Cf) : Ev → Sto → Option (Bool × Sto) := fun e1 s1 => tru (bor (.cmp .gt (.v 4) (.int 0)) (ev gl cf (.cmp .gt (.v 4) (.int 0)) e1 s1) e1 s1)
def wB (c : Nat) : Ss := (.cons (.ite (.cmp .eq (.bin .mod (.v 4) (.int 2)) (.int 1)) (.cons (.asg (.n 2) (.call c (.cons (.v 2) (.cons (.v 3) .nil)))) .nil) .nil) (.cons (.asg (.t (.cons (.n 3) (.cons (.n 4) .nil))) (.tup (.cons (.call c (.cons (.v 3) (.cons (.v 3) .nil))) (.cons (.bin .fdiv (.v 4) (.int 2)) .nil)))) .nil))
abbrev wS (gl : Nat → Option D) (cf : Cf) (W c : Nat) : Ev → Sto → SR := fun e1 s1 => execs gl cf W (wB c) e1 s1
theorem wT_ok (x y : D) (n : Nat) (f b : Nat → Nat → Int) (r : Nat) (st : Sto) : wT gl cf (En x y n f b r) st = some (decide (0 < r), st) := by
  have h := tru_E (gl := gl) (cf := cf) (a := .cmp .gt (.v 4) (.int 0)) (env := En x y n f b r) (st := st) (s := st) (x := .bool (decide ((0 : Int) < ((r : Nat) : Int)))) (bor_E rfl (ev_cmp (bor_sh rfl) (bor_E rfl rfl rfl) (gt_int _ _)) rfl) rfl
  exact h.trans (by simp)
theorem mod2 (r : Nat) : binD .mod (.int (r : Nat)) (.int 2) = some (.d (.int ((r % 2 : Nat) : Int))) := modP (by decide)
theorem fdiv2 (r : Nat) : binD .fdiv (.int (r : Nat)) (.int 2) = some (.d (.int ((r / 2 : Nat) : Int))) := fdivP (by decide) (by decide +kernel)
theorem le2 (a b : D) : [a, b].length ≤ SL := (by decide : (2 : Nat) ≤ SL)
theorem le3 (a b c : D) : [a, b, c].length ≤ SL := (by decide : (3 : Nat) ≤ SL)
/-- what product_of does for tables of one size -/
def Prods (cf : Cf) (c n : Nat) (st : Sto) : Prop := ∀ f g : Nat → Nat → Int, SmM n f → cf c [.d (mat true true n f), .d (mat true true n g)] st = some (.d (mat true true n (prod n f g)), st)
theorem wS_ok {c : Nat} (x y : D) (n : Nat) (f b : Nat → Nat → Int) (r : Nat) (st : Sto) (hp : Prods cf c n st) (hf : SmM n f) (hb : SmM n b) :
    wS gl cf W c (En x y n f b r) st = some (.nx, En x y n (if r % 2 = 1 then prod n f b else f) (prod n b b) (r / 2), st) := by
  have hc : tru (bor (.cmp .eq (.bin .mod (.v 4) (.int 2)) (.int 1)) (ev gl cf (.cmp .eq (.bin .mod (.v 4) (.int 2)) (.int 1)) (En x y n f b r) st) (En x y n f b r) st) = some (decide (r % 2 = 1), st) := by
    rw [tru_E (bor_E rfl (ev_cmp (bor_E rfl (ev_bin (bor_sh rfl) (bor_E rfl rfl rfl) (mod2 r)) rfl) (bor_E rfl rfl rfl) (eq_int _ _)) rfl) rfl]
    congr 2
    by_cases h : r % 2 = 1
    · simp [h]
    · have : ¬ ((r % 2 : Nat) : Int) = 1 := by omega
      simp only [h, this]
  have tail : ∀ f' : Nat → Nat → Int, execs gl cf W (.cons (.asg (.t (.cons (.n 3) (.cons (.n 4) .nil))) (.tup (.cons (.call c (.cons (.v 3) (.cons (.v 3) .nil))) (.cons (.bin .fdiv (.v 4) (.int 2)) .nil)))) .nil) (En x y n f' b r) st = some (.nx, En x y n f' (prod n b b) (r / 2), st) := fun f' =>
    exs_cons (ex_asg (x := .tuple [mat true true n (prod n b b), .int ((r / 2 : Nat) : Int)]) (toD_E (ev_tup (evs_cons (toD_E (ev_call (eva_cons (ev_sh rfl) (eva_cons (ev_sh rfl) eva_nil)) (hp b b hb)) rfl) (evs_cons (toD_E (ev_bin (bor_sh rfl) (bor_E rfl rfl rfl) (fdiv2 r)) rfl) evs_nil)) (le2 _ _)) rfl) rfl) rfl
  by_cases h : r % 2 = 1
  · rw [decide_eq_true h] at hc
    rw [if_pos h]
    refine exs_iteT hc ?_
    exact exs_cons (ex_asg (x := mat true true n (prod n f b)) (toD_E (ev_call (eva_cons (ev_sh rfl) (eva_cons (ev_sh rfl) eva_nil)) (hp f b hf)) rfl) rfl) (tail (prod n f b))
  · rw [decide_eq_false h] at hc
    rw [if_neg h]
    exact exs_iteF hc (tail f)
theorem wh_ok {c : Nat} (x y : D) (n : Nat) (st : Sto) (hp : Prods cf c n st) : ∀ (j N : Nat) (f b : Nat → Nat → Int) (r : Nat), j ≤ N → powOk n j f b r → ∃ b', whL (wT gl cf) (wS gl cf W c) (N + 1) (En x y n f b r) st = some (.nx, En x y n (powF n j f b r) b' 0, st)
  | 0, N, f, b, r, _, h => by
    cases (show r = 0 from h)
    exact ⟨b, by unfold whL; rw [wT_ok]; rfl⟩
  | j + 1, N, f, b, r, hj, h => by
    unfold powF
    by_cases hr : r = 0
    · subst hr
      rw [if_pos rfl]
      exact ⟨b, by unfold whL; rw [wT_ok]; rfl⟩
    · rw [if_neg hr]
      rcases h with h | ⟨h1, h2, h3⟩
      · exact absurd h hr
      · obtain ⟨M, rfl⟩ : ∃ M, N = M + 1 := ⟨N - 1, by omega⟩
        unfold whL
        rw [wT_ok, decide_eq_true (by omega : 0 < r)]
        simp only [wS_ok x y n f b r st hp h1 h2]
        exact wh_ok x y n st hp j M _ _ _ (by omega) h3
theorem power_ok {cu ct cp : Nat} (b c : Bool) (n : Nat) (f : Nat → Nat → Int) (m j W' : Nat) (hW : W = W' + 1) (hj : j ≤ W') (h : powOk n j one f m) (st : Sto) (hp : Prods cf cp n st) (hu : cf cu [.d (.int (n : Nat))] st = some (.d (mat true true n one), st)) (ht : cf ct [.d (mat b c n f)] st = some (.d (mat true true n f), st)) :
    out (execs gl cf W (T_power cu ct cp) [.sh (mat b c n f), .sh (.int (m : Nat)), .no, .no, .no] st) = some (.d (mat true true n (powF n j one f m)), st) := by
  have hl : f1D .len (mat b c n f) = some (.d (.int (n : Nat))) := by
    unfold mat
    rw [len_sq, List.length_map, List.length_range]
  obtain ⟨b', hw⟩ := wh_ok (gl := gl) (W := W) (mat b c n f) (.int (m : Nat)) n st hp j W' one f m hj h
  refine o_asg (x := .tuple [mat true true n one, mat true true n f, .int (m : Nat)]) (toD_E (ev_tup (evs_cons (toD_E (ev_call (eva_cons (ev_f1 (bor_sh rfl) hl) eva_nil) hu) rfl) (evs_cons (toD_E (ev_call (eva_cons (ev_sh rfl) eva_nil) ht) rfl) (evs_cons (toD_E (ev_sh rfl) rfl) evs_nil))) (le3 _ _ _)) rfl) rfl ?_
  refine o_cons (s := .wh (.cmp .gt (.v 4) (.int 0)) (wB cp)) (e1 := En (mat b c n f) (.int (m : Nat)) n (powF n j one f m) b' 0) (s1 := st) ?_ (o_ret (ev_sh rfl))
  show whL (wT gl cf) (wS gl cf W cp) W (En (mat b c n f) (.int (m : Nat)) n one f m) st = _
  rw [hW] at hw ⊢
  exact hw
end
end Lib

end
section
set_option Elab.async false
set_option linter.all false
set_option maxRecDepth 100000
set_option maxHeartbeats 4000000
namespace Lib
open PySem Pi
/-! ### loops, by what was walked -/
theorem forL_ind {α : Type} {bd : D → Ev → Option Ev} {body : Ev → Sto → SR} (a : α → D) {ys : List α} (I : List α → Ev → Sto → Prop)
    (h : ∀ pre x post env st, ys = pre ++ x :: post → I pre env st → ∃ e1 e2 s2, bd (a x) env = some e1 ∧ body e1 st = some (.nx, e2, s2) ∧ I (pre ++ [x]) e2 s2) :
    ∀ (xs pre : List α) (env : Ev) (st : Sto), ys = pre ++ xs → I pre env st → ∃ e2 s2, forL bd body (xs.map a) env st = some (.nx, e2, s2) ∧ I ys e2 s2
  | [], pre, env, st, e, hi => ⟨env, st, rfl, by rw [e, List.append_nil]; exact hi⟩
  | x :: xs, pre, env, st, e, hi => by
    obtain ⟨e1, e2, s2, h1, h2, h3⟩ := h pre x xs env st e hi
    obtain ⟨e3, s3, h4, h5⟩ := forL_ind a I h xs (pre ++ [x]) e2 s2 (by rw [e]; simp) h3
    refine ⟨e3, s3, ?_, h5⟩
    rw [List.map_cons]
    unfold forL
    simp only [h1, h2]
    exact h4
/-! ### dicts as lists of keys and values -/
section
variable {κ β : Type} [DecidableEq κ]
def klook (k : κ) : List (κ × β) → Option β
  | [] => none
  | p :: r => if p.1 = k then some p.2 else klook k r
def kput (k : κ) (v : β) (l : List (κ × β)) : List (κ × β) := if (l.any fun p => decide (p.1 = k)) = true then l.map (fun p => if p.1 = k then (p.1, v) else p) else l ++ [(k, v)]
theorem klook_map (k j : κ) (v : β) : ∀ l : List (κ × β), klook j (l.map fun p => if p.1 = k then (p.1, v) else p) = if (l.any fun p => decide (p.1 = k)) = true ∧ j = k then some v else klook j l
  | [] => by simp [klook]
  | p :: l => by
    rw [List.map_cons]
    unfold klook
    rw [klook_map k j v l, List.any_cons]
    by_cases h1 : p.1 = k
    · by_cases h2 : k = j
      · subst h2; simp [h1]
      · have h3 : ¬ j = k := fun z => h2 z.symm
        simp [h1, h2, h3]
    · rw [decide_eq_false h1, Bool.false_or, if_neg h1]
      by_cases h2 : p.1 = j
      · have h3 : ¬ j = k := fun z => h1 (h2.trans z)
        simp [h2, h3]
      · rw [if_neg h2, if_neg h2]
theorem klook_app (k j : κ) (v : β) : ∀ l : List (κ × β), klook j (l ++ [(k, v)]) = match klook j l with | some u => some u | none => if k = j then some v else none
  | [] => rfl
  | p :: l => by
    show (if p.1 = j then some p.2 else klook j (l ++ [(k, v)])) = match (if p.1 = j then some p.2 else klook j l) with | some u => some u | none => if k = j then some v else none
    by_cases h : p.1 = j
    · rw [if_pos h, if_pos h]
    · rw [if_neg h, if_neg h, klook_app k j v l]
theorem klook_none {k : κ} : ∀ {l : List (κ × β)}, (l.any fun p => decide (p.1 = k)) = false → klook k l = none
  | [], _ => rfl
  | p :: l, h => by
    rw [List.any_cons, Bool.or_eq_false_iff, decide_eq_false_iff_not] at h
    unfold klook
    rw [if_neg h.1]
    exact klook_none h.2
theorem klook_kput (k j : κ) (v : β) (l : List (κ × β)) : klook j (kput k v l) = if j = k then some v else klook j l := by
  unfold kput
  by_cases h : (l.any fun p => decide (p.1 = k)) = true
  · rw [if_pos h, klook_map]
    by_cases e : j = k
    · rw [if_pos ⟨h, e⟩, if_pos e]
    · rw [if_neg fun z => e z.2, if_neg e]
  · rw [if_neg h, klook_app]
    by_cases e : j = k
    · subst e
      rw [klook_none ((Bool.not_eq_true _).mp h), if_pos rfl]
    · rw [if_neg e, if_neg fun z => e z.symm]
      cases klook j l <;> rfl
theorem kput_len (k : κ) (v : β) (l : List (κ × β)) : (kput k v l).length ≤ l.length + 1 := by
  unfold kput
  split
  · rw [List.length_map]; omega
  · rw [List.length_append, List.length_singleton]; omega
def dOf (enc : κ → D) (l : List (κ × D)) : List (D × D) := l.map fun p => (enc p.1, p.2)
variable {enc : κ → D} (he : ∀ a b, keyEq (enc a) (enc b) = decide (a = b))
include he
theorem dlook_of (k : κ) : ∀ l : List (κ × D), dlook (enc k) (dOf enc l) = klook k l
  | [] => rfl
  | p :: l => by
    show (if keyEq (enc p.1) (enc k) = true then some p.2 else dlook (enc k) (dOf enc l)) = if p.1 = k then some p.2 else klook k l
    rw [he, dlook_of k l]
    simp
theorem dput_of (k : κ) (v : D) (l : List (κ × D)) : dput (enc k) v (dOf enc l) = dOf enc (kput k v l) := by
  have h1 : ((dOf enc l).any fun p => keyEq p.1 (enc k)) = l.any fun p => decide (p.1 = k) := by
    unfold dOf
    rw [List.any_map]
    congr 1
    funext p
    exact he _ _
  unfold dput kput
  rw [h1]
  by_cases h : (l.any fun p => decide (p.1 = k)) = true
  · rw [if_pos h, if_pos h]
    unfold dOf
    rw [List.map_map, List.map_map]
    refine List.map_congr_left fun p _ => ?_
    show (if keyEq (enc p.1) (enc k) = true then (enc p.1, v) else (enc p.1, p.2)) = (enc (if p.1 = k then (p.1, v) else p).1, (if p.1 = k then (p.1, v) else p).2)
    rw [he]
    by_cases e : p.1 = k
    · simp [e]
    · simp [e]
  · rw [if_neg h, if_neg h]
    unfold dOf
    rw [List.map_append]; rfl
end
/-- two texts as a key -/
def enc2 (p : Str × Str) : D := .tuple [.str p.1, .str p.2]
theorem enc2_eq (a b : Str × Str) : keyEq (enc2 a) (enc2 b) = decide (a = b) := by
  rw [show keyEq (enc2 a) (enc2 b) = keyEq (ktD [.inr a.1, .inr a.2]) (ktD [.inr b.1, .inr b.2]) from rfl, keyEq_kt]
  obtain ⟨a1, a2⟩ := a
  obtain ⟨b1, b2⟩ := b
  by_cases h : a1 = b1
  · by_cases h2 : a2 = b2
    · subst h; subst h2; simp
    · simp [h2]
  · simp [h]
/-! ### table -/
def cnt (es : List Edge) (x y : Str) : Nat := (es.filter fun e => e.1 == x && e.2.2 == y).length
def nth (l : List Str) (i : Nat) : Str := l.getD i Str.empty
def tabF (es : List Edge) : Nat → Nat → Int := fun i j => ((cnt es (nth (nms es) i) (nth (nms es) j) : Nat) : Int)
theorem map_nth {β : Type} (f : Str → β) (l : List Str) : l.map f = (List.range l.length).map fun i => f (nth l i) := by
  refine List.ext_getElem (by simp) fun i h1 h2 => ?_
  rw [List.length_map] at h1
  simp [nth, h1]
section
variable {gl : Nat → Option D} {cf : Cf} {W : Nat}
/-- table: web names many near word far -/
def T_table (c_standings : Nat) : Ss := (.cons (.par 1 false (.call c_standings (.cons (.v 0) .nil)) 2 true (.dnew true)) (.cons (.for' (.t (.cons (.n 3) (.cons (.n 4) (.cons (.n 5) .nil)))) (.of (.v 0)) (.cons (.dputT 2 (.cons (.v 3) (.cons (.v 5) .nil)) (.bin .add (.dget2 (.v 2) (.tup (.cons (.v 3) (.cons (.v 5) .nil))) (.int 0)) (.int 1))) .nil)) (.cons (.ret (.f1 .tuple (.lc [3] (.f1 .tuple (.lc [5] (.dget2 (.v 2) (.tup (.cons (.v 3) (.cons (.v 5) .nil))) (.int 0)) (.n 5) (.of (.v 1)) .no)) (.n 3) (.of (.v 1)) .no))) .nil)))
def mk : D × D := (.tuple [], .none)
theorem cnt_snoc (pre : List Edge) (e : Edge) (x y : Str) : cnt (pre ++ [e]) x y = cnt pre x y + if e.1 = x ∧ e.2.2 = y then 1 else 0 := by
  unfold cnt
  rw [List.filter_append, List.length_append]
  congr 1
  by_cases h : e.1 = x ∧ e.2.2 = y
  · rw [if_pos h]; simp [h.1, h.2]
  · rw [if_neg h, List.filter_cons_of_neg]
    · rfl
    · simpa using h
abbrev tabE (w nm : D) (kvs : List ((Str × Str) × D)) (x y z : Slot) : Ev := [.sh w, .sh nm, .ow (.dict (mk :: dOf enc2 kvs)), x, y, z]
theorem get_tab (w nm : D) (kvs : List ((Str × Str) × D)) (x y z : Slot) (a b : Str) (st : Sto) (h3 : x = .sh (.str a)) (h5 : z = .sh (.str b)) :
    ev gl cf (.dget2 (.v 2) (.tup (.cons (.v 3) (.cons (.v 5) .nil))) (.int 0)) (tabE w nm kvs x y z) st = some (.d ((klook (a, b) kvs).getD (.int 0)), st) := by
  subst h3 h5
  refine ev_dget2 (bor_ow rfl) (bor_E rfl (ev_tup (evs_cons (toD_E (ev_sh rfl) rfl) (evs_cons (toD_E (ev_sh rfl) rfl) evs_nil)) (le2 _ _)) rfl) (toD_E ev_int rfl) ?_
  show some (Vl.d ((dlook (enc2 (a, b)) (dOf enc2 kvs)).getD (.int 0))) = _
  rw [dlook_of enc2_eq]
theorem table_ok {c : Nat} (b d : Bool) (es : List Edge) (hl : es.length ≤ 30) (st : Sto) (hs : cf c [.d (webD b d es)] st = some (.d (.tuple ((nms es).map PyData.str)), st)) :
    out (execs gl cf W (T_table c) [.sh (webD b d es), .no, .no, .no, .no, .no] st) = some (.d (mat true true (nms es).length (tabF es)), st) := by
  have hn : (nms es).length ≤ SL := by
    have := ordS_len (ends2 es)
    rw [len_ends2] at this
    show (ordS (ends2 es)).length ≤ 16777216
    omega
  refine o_cons (ex_par (w := .d (.tuple ((nms es).map PyData.str))) (u := .fr (.dict [mk])) (a := .sh (.tuple ((nms es).map PyData.str))) (b := .ow (.dict [mk])) (ev_call (eva_cons (ev_sh rfl) eva_nil) hs) rfl rfl rfl ⟨by decide, by show (1 : Nat) < 6; decide, by show (2 : Nat) < 6; decide⟩) ?_
  obtain ⟨e2, s2, hf, kvs, x, y, z, he, hk, hlen, hst⟩ := forL_ind (bd := bindT (.t (.cons (.n 3) (.cons (.n 4) (.cons (.n 5) .nil))))) (body := fun e1 s1 => execs gl cf W (.cons (.dputT 2 (.cons (.v 3) (.cons (.v 5) .nil)) (.bin .add (.dget2 (.v 2) (.tup (.cons (.v 3) (.cons (.v 5) .nil))) (.int 0)) (.int 1))) .nil) e1 s1)
    (eD d) (ys := es) (fun pre env s => ∃ (kvs : List ((Str × Str) × D)) (x y z : Slot), env = tabE (webD b d es) (.tuple ((nms es).map PyData.str)) kvs x y z ∧ (∀ u v : Str, (klook (u, v) kvs).getD (.int 0) = .int ((cnt pre u v : Nat) : Int)) ∧ kvs.length ≤ pre.length ∧ s = st)
    (fun pre e post env s ee ⟨kvs, x, y, z, he, hk, hlen, hst⟩ => by
      subst he hst
      have hlen2 := congrArg List.length ee
      rw [List.length_append, List.length_cons] at hlen2
      refine ⟨tabE (webD b d es) (.tuple ((nms es).map PyData.str)) kvs (.sh (.str e.1)) (.sh (.str e.2.1)) (.sh (.str e.2.2)), tabE (webD b d es) (.tuple ((nms es).map PyData.str)) (kput (e.1, e.2.2) (.int ((cnt pre e.1 e.2.2 : Nat) + 1)) kvs) (.sh (.str e.1)) (.sh (.str e.2.1)) (.sh (.str e.2.2)), s, by cases d <;> rfl, exs_cons (e1 := tabE (webD b d es) (.tuple ((nms es).map PyData.str)) (kput (e.1, e.2.2) (.int ((cnt pre e.1 e.2.2 : Nat) + 1)) kvs) (.sh (.str e.1)) (.sh (.str e.2.1)) (.sh (.str e.2.2))) (s1 := s) ?_ rfl, _, _, _, _, rfl, fun u v => ?_, ?_, rfl⟩
      · rw [show tabE (webD b d es) (.tuple ((nms es).map PyData.str)) (kput (e.1, e.2.2) (.int ((cnt pre e.1 e.2.2 : Nat) + 1)) kvs) (.sh (.str e.1)) (.sh (.str e.2.1)) (.sh (.str e.2.2))
          = (tabE (webD b d es) (.tuple ((nms es).map PyData.str)) kvs (.sh (.str e.1)) (.sh (.str e.2.1)) (.sh (.str e.2.2))).set 2 (.ow (.dict (mk :: dput (enc2 (e.1, e.2.2)) (.int ((cnt pre e.1 e.2.2 : Nat) + 1)) (dOf enc2 kvs)))) by rw [dput_of enc2_eq]; rfl]
        have hg := get_tab (gl := gl) (cf := cf) (webD b d es) (.tuple ((nms es).map PyData.str)) kvs (.sh (.str e.1)) (.sh (.str e.2.1)) (.sh (.str e.2.2)) e.1 e.2.2 s rfl rfl
        rw [hk] at hg
        exact ex_dputT (ds := mk :: dOf enc2 kvs) (toD_E (ev_bin (bor_E rfl hg rfl) (bor_E rfl ev_int rfl) (addI _ _)) rfl) (evs_cons (toD_E (ev_sh rfl) rfl) (evs_cons (toD_E (ev_sh rfl) rfl) evs_nil)) rfl (by
          have h2 : (mk :: dOf enc2 kvs).length < SL := by
            show (dOf enc2 kvs).length + 1 < 16777216
            unfold dOf
            rw [List.length_map]; omega
          rw [decide_eq_true h2]; rfl) rfl
      · rw [klook_kput, cnt_snoc]
        by_cases h : (u, v) = (e.1, e.2.2)
        · cases h
          rw [if_pos rfl, if_pos ⟨rfl, rfl⟩]; rfl
        · rw [if_neg h, if_neg (fun z => h (by rw [z.1, z.2])), hk]; rfl
      · have := kput_len (e.1, e.2.2) (PyData.int ((cnt pre e.1 e.2.2 : Nat) + 1)) kvs
        rw [List.length_append, List.length_singleton]; omega)
    es [] (tabE (webD b d es) (.tuple ((nms es).map PyData.str)) [] .no .no .no) st rfl ⟨[], .no, .no, .no, rfl, fun u v => rfl, Nat.le_refl _, rfl⟩
  subst he hst
  refine o_cons (ex_for (s := s2) (evi_of (bor_sh rfl) (walk_web b d es)) hf rfl) ?_
  have hfin : out (execs gl cf W (.cons (.ret (.f1 .tuple (.lc [3] (.f1 .tuple (.lc [5] (.dget2 (.v 2) (.tup (.cons (.v 3) (.cons (.v 5) .nil))) (.int 0)) (.n 5) (.of (.v 1)) .no)) (.n 3) (.of (.v 1)) .no))) .nil) (tabE (webD b d es) (.tuple ((nms es).map PyData.str)) kvs x y z) s2) = some (.d (.tuple ((nms es).map fun u => .tuple ((nms es).map fun v => .int ((cnt es u v : Nat) : Int)))), s2) := by
    refine o_ret (ev_f1 (bor_E rfl (lcN (xs := nms es) (a := PyData.str) (f := fun u => .tuple ((nms es).map fun v => .int ((cnt es u v : Nat) : Int))) (E1 := fun u => tabE (webD b d es) (.tuple ((nms es).map PyData.str)) kvs (.sh (.str u)) y z) (evi_of (bor_sh rfl) rfl) (fun _ _ => rfl) (fun u _ => ?_) hn) rfl) rfl)
    refine toD_E (ev_f1 (bor_E rfl (lcN (xs := nms es) (a := PyData.str) (f := fun v => .int ((cnt es u v : Nat) : Int)) (E1 := fun v => tabE (webD b d es) (.tuple ((nms es).map PyData.str)) kvs (.sh (.str u)) y (.sh (.str v))) (evi_of (bor_sh rfl) rfl) (fun _ _ => rfl) (fun v _ => ?_) hn) rfl) rfl) rfl
    rw [← hk]
    exact toD_E (get_tab _ _ _ _ _ _ u v s2 rfl rfl) rfl
  refine hfin.trans ?_
  unfold mat vec
  rw [map_nth]
  congr 3
  refine congrArg PyData.tuple (List.map_congr_left fun i _ => ?_)
  exact congrArg PyData.tuple (map_nth _ _)
end
end Lib

end
section
set_option Elab.async false
set_option linter.all false
set_option maxRecDepth 100000
set_option maxHeartbeats 4000000
namespace Lib
open PySem Pi
/-! ### ways, one by one (plain) -/
/-- a way: its first line, the others -/
abbrev Way := Edge × List Edge
def Way.toL (w : Way) : List Edge := w.1 :: w.2
def lastE (w : Way) : Edge := w.2.getLast?.getD w.1
def ext (es : List Edge) (ws : List Way) : List Way := ws.flatMap fun w => (es.filter fun f => f.1 == (lastE w).2.2).map fun f => (w.1, w.2 ++ [f])
def waysF (es : List Edge) : Nat → List Way
  | 0 => es.map fun e => (e, [])
  | m + 1 => ext es (waysF es m)
theorem lastE_snoc (e f : Edge) (l : List Edge) : lastE (e, l ++ [f]) = f := by simp [lastE]
theorem ext_cons (es : List Edge) (w : Way) (ws : List Way) : ext es (w :: ws) = ((es.filter fun f => f.1 == (lastE w).2.2).map fun f => (w.1, w.2 ++ [f])) ++ ext es ws := by unfold ext; rw [List.flatMap_cons]
theorem ext_snoc (es : List Edge) (w : Way) (ws : List Way) : ext es (ws ++ [w]) = ext es ws ++ (es.filter fun f => f.1 == (lastE w).2.2).map fun f => (w.1, w.2 ++ [f]) := by unfold ext; rw [List.flatMap_append]; simp
theorem ext_len (es : List Edge) : ∀ ws : List Way, (ext es ws).length ≤ ws.length * es.length
  | [] => by simp [ext]
  | w :: ws => by
    have h1 := ext_len es ws
    have h2 := List.length_filter_le (fun f : Edge => f.1 == (lastE w).2.2) es
    rw [ext_cons, List.length_append, List.length_map, List.length_cons, Nat.succ_mul]
    omega
theorem waysF_len (es : List Edge) (h : es.length ≤ 12) : ∀ m, (waysF es m).length ≤ 12 ^ (m + 1)
  | 0 => by simpa [waysF] using h
  | m + 1 => by
    have h1 := ext_len es (waysF es m)
    have h2 := waysF_len es h m
    have h3 := Nat.mul_le_mul h2 h
    show (ext es (waysF es m)).length ≤ 12 ^ (m + 1) * 12
    omega
/-- every way ends at a line's end -/
theorem waysF_last (es : List Edge) : ∀ m, ∀ w ∈ waysF es m, lastE w ∈ es
  | 0, w, h => by
    obtain ⟨e, he, rfl⟩ := List.mem_map.mp h
    exact he
  | m + 1, w, h => by
    obtain ⟨v, hv, h2⟩ := List.mem_flatMap.mp h
    obtain ⟨f, hf, rfl⟩ := List.mem_map.mp h2
    rw [lastE_snoc]
    exact (List.mem_filter.mp hf).1
def wcnt (ws : List Way) (x y : Str) : Nat := (ws.filter fun w => w.1.1 == x && (lastE w).2.2 == y).length
theorem nth_mem {l : List Str} {x : Str} (h : x ∈ l) : ∃ i, i < l.length ∧ nth l i = x := by
  obtain ⟨i, hi, e⟩ := List.getElem_of_mem h
  exact ⟨i, hi, by simp [nth, hi, e]⟩
theorem nth_inj {l : List Str} (nd : l.Nodup) {i j : Nat} (hi : i < l.length) (hj : j < l.length) (h : nth l i = nth l j) : i = j := by
  unfold nth at h
  rw [List.getD_eq_getElem?_getD, List.getD_eq_getElem?_getD, List.getElem?_eq_getElem hi, List.getElem?_eq_getElem hj] at h
  exact (List.getElem_inj nd).mp h
/-- the one place where the text stands -/
theorem pick_nth {l : List Str} (nd : l.Nodup) {x : Str} (hx : x ∈ l) (g : Str → Int) : sumN l.length (fun k => (if x = nth l k then 1 else 0) * g (nth l k)) = g x := by
  obtain ⟨i, hi, e⟩ := nth_mem hx
  rw [sumN_congr (g := fun k => (if i = k then 1 else 0) * g (nth l k)) fun k hk => ?_, sumN_pick (fun k => g (nth l k)) i l.length, if_pos hi, e]
  by_cases h : i = k
  · subst h; rw [if_pos e.symm, if_pos rfl]
  · rw [if_neg h, if_neg fun z => h (nth_inj nd hi hk (e.trans z))]
/-- grouped by where they end -/
theorem group {ws : List Way} {nm : List Str} (nd : nm.Nodup) (hw : ∀ w ∈ ws, (lastE w).2.2 ∈ nm) (p : Way → Bool) : ((ws.filter p).length : Int) = sumN nm.length fun k => (((ws.filter fun w => p w && (lastE w).2.2 == nth nm k).length : Nat) : Int) := by
  induction ws with
  | nil => exact (sumN_nil fun _ _ => rfl).symm
  | cons w ws ih =>
    have ih := ih fun v hv => hw v (List.mem_cons_of_mem _ hv)
    have hx := hw w List.mem_cons_self
    cases hp : p w with
    | false =>
      rw [List.filter_cons_of_neg (by simp [hp]), ih]
      exact sumN_congr fun k _ => by rw [List.filter_cons_of_neg (by simp [hp])]
    | true =>
      rw [List.filter_cons_of_pos hp, List.length_cons]
      have h1 := pick_nth nd hx (fun _ => 1)
      rw [show ((((ws.filter p).length + 1 : Nat) : Int)) = 1 + ((ws.filter p).length : Int) by omega, ih, ← h1, ← sumN_add]
      refine sumN_congr fun k _ => ?_
      by_cases h : (lastE w).2.2 = nth nm k
      · rw [if_pos h, List.filter_cons_of_pos (by simp [hp, h]), List.length_cons]; omega
      · rw [if_neg h, List.filter_cons_of_neg (by simp [hp, h])]; omega
theorem wcnt_ext {es : List Edge} {ws : List Way} {nm : List Str} (nd : nm.Nodup) (hw : ∀ w ∈ ws, (lastE w).2.2 ∈ nm) (x y : Str) : ((wcnt (ext es ws) x y : Nat) : Int) = sumN nm.length fun k => ((wcnt ws x (nth nm k) : Nat) : Int) * ((cnt es (nth nm k) y : Nat) : Int) := by
  induction ws with
  | nil => exact (sumN_nil fun _ _ => by simp [wcnt]).symm
  | cons w ws ih =>
    have ih := ih fun v hv => hw v (List.mem_cons_of_mem _ hv)
    have hx := hw w List.mem_cons_self
    have h0 : wcnt (ext es (w :: ws)) x y = (if w.1.1 = x then cnt es (lastE w).2.2 y else 0) + wcnt (ext es ws) x y := by
      unfold wcnt
      rw [ext_cons, List.filter_append, List.length_append, List.filter_map, List.length_map, List.filter_filter]
      congr 1
      by_cases h : w.1.1 = x
      · rw [if_pos h]
        unfold cnt
        congr 1
        refine List.filter_congr fun f _ => ?_
        show ((w.1.1 == x && (lastE (w.1, w.2 ++ [f])).2.2 == y) && f.1 == (lastE w).2.2) = _
        rw [lastE_snoc, beq_iff_eq.mpr h, Bool.true_and, Bool.and_comm]
      · rw [if_neg h, List.length_eq_zero_iff, List.filter_eq_nil_iff]
        intro f _
        show ¬ ((w.1.1 == x && (lastE (w.1, w.2 ++ [f])).2.2 == y) && f.1 == (lastE w).2.2) = true
        rw [beq_eq_false_iff_ne.mpr h]; simp
    rw [h0, Int.natCast_add, ih]
    by_cases h : w.1.1 = x
    · have h1 := pick_nth nd hx (fun z => ((cnt es z y : Nat) : Int))
      rw [if_pos h, ← h1, ← sumN_add]
      refine sumN_congr fun k _ => ?_
      rw [← Int.add_mul]
      congr 1
      unfold wcnt
      by_cases h2 : (lastE w).2.2 = nth nm k
      · rw [if_pos h2, List.filter_cons_of_pos (by simp [h, h2]), List.length_cons]; omega
      · rw [if_neg h2, List.filter_cons_of_neg (by simp [h2])]; omega
    · rw [if_neg h]
      rw [show ((0 : Nat) : Int) = 0 from rfl, Int.zero_add]
      refine sumN_congr fun k _ => ?_
      congr 2
      unfold wcnt
      rw [List.filter_cons_of_neg (by simp [h])]
theorem last_nms {es : List Edge} {m : Nat} : ∀ w ∈ waysF es m, (lastE w).2.2 ∈ nms es := fun w h => mem_nms.mpr ⟨lastE w, waysF_last es m w h, .inr rfl⟩
/-- the ways of so many lines are counted by the table's power -/
theorem ways_pw (es : List Edge) : ∀ (m i j : Nat), i < (nms es).length → j < (nms es).length → ((wcnt (waysF es m) (nth (nms es) i) (nth (nms es) j) : Nat) : Int) = pw (nms es).length (tabF es) (m + 1) i j
  | 0, i, j, hi, hj => by
    show _ = prod (nms es).length one (tabF es) i j
    rw [one_prod _ _ i j hi hj]
    unfold tabF cnt wcnt waysF
    rw [List.filter_map, List.length_map]
    rfl
  | m + 1, i, j, hi, hj => by
    show ((wcnt (ext es (waysF es m)) _ _ : Nat) : Int) = prod (nms es).length (pw (nms es).length (tabF es) (m + 1)) (tabF es) i j
    rw [wcnt_ext (nm := nms es) (nodup_ordS _) last_nms]
    refine sumN_congr fun k hk => ?_
    rw [ways_pw es m i k hi hk]
    rfl
/-- from a standing -/
theorem ways_from (es : List Edge) (m i : Nat) (hi : i < (nms es).length) : ((((waysF es m).filter fun w => w.1.1 == nth (nms es) i).length : Nat) : Int) = sumN (nms es).length fun j => pw (nms es).length (tabF es) (m + 1) i j * 1 := by
  rw [group (nm := nms es) (nodup_ordS _) last_nms]
  exact sumN_congr fun j hj => by rw [Int.mul_one, ← ways_pw es m i j hi hj]; rfl
/-- and back -/
theorem ways_back (es : List Edge) (m : Nat) : ((((waysF es m).filter fun w => w.1.1 == (lastE w).2.2).length : Nat) : Int) = sumN (nms es).length fun i => pw (nms es).length (tabF es) (m + 1) i i := by
  rw [group (nm := nms es) (nodup_ordS _) last_nms]
  refine sumN_congr fun i hi => ?_
  rw [← ways_pw es m i i hi hi]
  unfold wcnt
  congr 2
  refine List.filter_congr fun w _ => ?_
  by_cases h : (lastE w).2.2 = nth (nms es) i
  · rw [h]
  · rw [show ((lastE w).2.2 == nth (nms es) i) = false by simpa using h]; simp
/-! bounds -/
theorem tabF_bd (es : List Edge) (i j : Nat) : 0 ≤ tabF es i j ∧ tabF es i j ≤ es.length := by
  unfold tabF cnt
  have := List.length_filter_le (fun e : Edge => e.1 == nth (nms es) i && e.2.2 == nth (nms es) j) es
  omega
/-- entries below c^a (c at least n times any entry) -/
def Bdc (n c a : Nat) (f : Nat → Nat → Int) : Prop := ∀ i j, i < n → j < n → n * (f i j).natAbs ≤ c ^ a
theorem natAbs_sumN (c : Nat) (h : Nat → Int) : ∀ n : Nat, (∀ i, i < n → (h i).natAbs ≤ c) → (sumN n h).natAbs ≤ n * c
  | 0, _ => by simp [sumN_zero]
  | n + 1, hc => by
    rw [sumN_succ]
    have h1 := natAbs_sumN c h n fun i hi => hc i (by omega)
    have h2 := hc n (by omega)
    have h3 := Int.natAbs_add_le (sumN n h) (h n)
    rw [Nat.succ_mul]
    omega
theorem Bdc.prod {n c a b : Nat} {f g : Nat → Nat → Int} (hf : Bdc n c a f) (hg : Bdc n c b g) : Bdc n c (a + b) (prod n f g) := fun i j hi hj => by
  have hn : 0 < n := by omega
  have key : ∀ m, m < n → (f i m * g m j).natAbs * (n * n) ≤ c ^ (a + b) := fun m hm => by
    rw [Int.natAbs_mul, Nat.pow_add]
    have := Nat.mul_le_mul (hf i m hi hm) (hg m j hm hj)
    have e : n * (f i m).natAbs * (n * (g m j).natAbs) = (f i m).natAbs * (g m j).natAbs * (n * n) := by
      rw [Nat.mul_comm n (f i m).natAbs, Nat.mul_comm n (g m j).natAbs, Nat.mul_assoc, ← Nat.mul_assoc n, Nat.mul_comm n (g m j).natAbs, Nat.mul_assoc, ← Nat.mul_assoc]
    omega
  have hnn : 0 < n * n := Nat.mul_pos hn hn
  have h2 := natAbs_sumN (c ^ (a + b) / (n * n)) (fun m => f i m * g m j) n fun m hm => (Nat.le_div_iff_mul_le hnn).mpr (key m hm)
  show n * (sumN n fun m => f i m * g m j).natAbs ≤ _
  have h3 : n * (sumN n fun m => f i m * g m j).natAbs ≤ n * (n * (c ^ (a + b) / (n * n))) := Nat.mul_le_mul_left _ h2
  rw [← Nat.mul_assoc] at h3
  exact Nat.le_trans h3 (Nat.mul_div_le _ _)
theorem Bdc.sm {n c a : Nat} {f : Nat → Nat → Int} (h : Bdc n c a f) (hc : c ^ a < 2 ^ 64) : SmM n f := fun i j hi hj => by
  have h1 := h i j hi hj
  have h2 : (f i j).natAbs ≤ n * (f i j).natAbs := Nat.le_mul_of_pos_left _ (by omega)
  unfold Sml
  omega
theorem Bdc.one {n c : Nat} (h : n ≤ c) : Bdc n c 1 one := fun i j _ _ => by
  unfold Lib.one
  rw [Nat.pow_one]
  by_cases e : i = j
  · rw [if_pos e]; simpa using h
  · rw [if_neg e]; simp
theorem powOk_of {n c t : Nat} (hc : ∀ e, e ≤ t → c ^ e < 2 ^ 64) : ∀ (j : Nat) (f b : Nat → Nat → Int) (r a d : Nat), Bdc n c a f → Bdc n c d b → r < 2 ^ j → a + d * r ≤ t → powOk n j f b r
  | 0, f, b, r, a, d, _, _, hr, _ => by show r = 0; omega
  | j + 1, f, b, r, a, d, hf, hb, hr, hs => by
    by_cases h : r = 0
    · exact .inl h
    · have hd : d ≤ d * r := Nat.le_mul_of_pos_right d (by omega)
      refine .inr ⟨hf.sm (hc _ (by omega)), hb.sm (hc _ (by omega)), ?_⟩
      have hr2 : r / 2 < 2 ^ j := by rw [Nat.pow_succ] at hr; omega
      have hm : (d + d) * (r / 2) ≤ d * r := by
        rw [← Nat.two_mul, Nat.mul_comm 2 d, Nat.mul_assoc]
        exact Nat.mul_le_mul_left _ (Nat.mul_div_le _ _)
      by_cases o : r % 2 = 1
      · rw [if_pos o]
        refine powOk_of hc j _ _ _ (a + d) (d + d) (hf.prod hb) (hb.prod hb) hr2 ?_
        have h1 : r = 2 * (r / 2) + 1 := by omega
        have h2 : d * r = d * (2 * (r / 2)) + d := by conv => lhs; rw [h1, Nat.mul_add, Nat.mul_one]
        have h3 : (d + d) * (r / 2) = d * (2 * (r / 2)) := by rw [← Nat.two_mul, Nat.mul_comm 2 d, Nat.mul_assoc]
        omega
      · rw [if_neg o]
        exact powOk_of hc j _ _ _ a (d + d) hf (hb.prod hb) hr2 (by omega)
end Lib

end
section
set_option Elab.async false
set_option linter.all false
set_option maxRecDepth 100000
set_option maxHeartbeats 4000000
namespace Lib
open PySem Pi
/-! ### sorted texts, sorted lines -/
theorem map_of {α : Type} (a : α → D) {xs : List α} : ∀ ys : List D, (∀ y ∈ ys, y ∈ xs.map a) → ∃ l : List α, ys = l.map a ∧ ∀ x ∈ l, x ∈ xs
  | [], _ => ⟨[], rfl, fun _ h => (by cases h)⟩
  | y :: ys, h => by
    obtain ⟨x, hx, rfl⟩ := List.mem_map.mp (h y List.mem_cons_self)
    obtain ⟨l, rfl, hl⟩ := map_of a ys fun z hz => h z (List.mem_cons_of_mem _ hz)
    exact ⟨x :: l, rfl, fun z hz => by
      rcases List.mem_cons.mp hz with rfl | hz
      · exact hx
      · exact hl z hz⟩
theorem sortOk_of {xs : List D} (h1 : ∀ x ∈ xs, okD x = true) (h2 : ∀ x ∈ xs, ∀ y ∈ xs, PySem.W.alike x y = true) (h3 : (∀ x ∈ xs, tupC x = true) ∨ ∀ x ∈ xs, notNT x = true) (hl : xs.length ≤ SL) : sortOk xs = true := by
  unfold sortOk
  simp only [Bool.and_eq_true, Bool.or_eq_true, List.all_eq_true, decide_eq_true_eq]
  exact ⟨⟨⟨h1, h2⟩, h3⟩, hl⟩
theorem sorted_of {α : Type} (a : α → D) {xs : List α} (h : sortOk (xs.map a) = true) : ∃ l : List α, f1D .sorted (.list (xs.map a)) = some (.fr (.list (l.map a))) ∧ (∀ x ∈ l, x ∈ xs) ∧ l.length = xs.length := by
  have pm := isortD_perm (xs.map a)
  obtain ⟨l, e, hl⟩ := map_of a (isortD (xs.map a)) fun y hy => pm.mem_iff.mp hy
  refine ⟨l, ?_, hl, ?_⟩
  · show (if sortOk (xs.map a) = true then some (isortD (xs.map a)) else none).map (fun ys => Vl.fr (.list ys)) = _
    rw [if_pos h, e]; rfl
  · have := pm.length_eq
    rw [e, List.length_map, List.length_map] at this
    exact this
theorem sorted_str {xs : List Str} (hl : xs.length ≤ SL) : ∃ l : List Str, f1D .sorted (.list (xs.map PyData.str)) = some (.fr (.list (l.map PyData.str))) ∧ (∀ x ∈ l, x ∈ xs) ∧ l.length = xs.length :=
  sorted_of PyData.str (sortOk_of (fun x hx => by obtain ⟨c, _, rfl⟩ := List.mem_map.mp hx; exact ok_str c) (fun x hx y hy => by
    obtain ⟨c, _, rfl⟩ := List.mem_map.mp hx
    obtain ⟨d, _, rfl⟩ := List.mem_map.mp hy
    exact alike_str c d) (.inr fun x hx => by obtain ⟨c, _, rfl⟩ := List.mem_map.mp hx; rfl) (by rw [List.length_map]; exact hl))
theorem ok_edge (c : Bool) (e : Edge) : okD (eD c e) = true := by cases c <;> simp [eD, sq, okD, PyData.plain, PyData.plainAll, PyData.depth, PyData.depthAll]
theorem alike_edge (e f : Edge) : PySem.W.alike (eD true e) (eD true f) = true := by simp [eD, sq, PySem.W.alike, PySem.W.alikeAll]
theorem sorted_edge {xs : List Edge} (hl : xs.length ≤ SL) : ∃ l : List Edge, f1D .sorted (.list (xs.map (eD true))) = some (.fr (.list (l.map (eD true)))) ∧ (∀ x ∈ l, x ∈ xs) ∧ l.length = xs.length :=
  sorted_of (eD true) (sortOk_of (fun x hx => by obtain ⟨c, _, rfl⟩ := List.mem_map.mp hx; exact ok_edge true c) (fun x hx y hy => by
    obtain ⟨c, _, rfl⟩ := List.mem_map.mp hx
    obtain ⟨d, _, rfl⟩ := List.mem_map.mp hy
    exact alike_edge c d) (.inl fun x hx => by obtain ⟨c, _, rfl⟩ := List.mem_map.mp hx; rfl) (by rw [List.length_map]; exact hl))
theorem sset_edge {xs : List Edge} (h0 : xs ≠ []) (hl : xs.length < 64) : ∃ l : List Edge, f1D .sset (.list (xs.map (eD true))) = some (.fr (.list (l.map (eD true)))) ∧ (∀ x ∈ l, x ∈ xs) ∧ l.length ≤ xs.length ∧ l ≠ [] := by
  have ok : setOk (xs.map (eD true)) = true := by
    unfold setOk
    simp only [Bool.and_eq_true, Bool.or_eq_true, List.all_eq_true, decide_eq_true_eq, List.length_map]
    refine ⟨⟨hl, .inr fun x hx => ?_⟩, fun x hx y hy => ?_⟩
    · obtain ⟨c, _, rfl⟩ := List.mem_map.mp hx
      rfl
    · obtain ⟨c, _, rfl⟩ := List.mem_map.mp hx
      obtain ⟨d, _, rfl⟩ := List.mem_map.mp hy
      exact alike_edge c d
  obtain ⟨_, _, kin⟩ := setOk_of ok
  obtain ⟨l, e, h1⟩ := map_of (eD true) (usortD (xs.map (eD true))) fun y hy => (mem_usort kin y).mp hy
  refine ⟨l, ?_, h1, ?_, ?_⟩
  · show (if setOk (xs.map (eD true)) = true then some (usortD (xs.map (eD true))) else none).map (fun ys => Vl.fr (.list ys)) = _
    rw [if_pos ok, e]; rfl
  · have := usort_len (xs.map (eD true))
    rw [e, List.length_map, List.length_map] at this
    exact this
  · intro z
    subst z
    obtain ⟨x, r, rfl⟩ := List.exists_cons_of_ne_nil h0
    have := (mem_usort kin (eD true x)).mpr List.mem_cons_self
    rw [e] at this
    cases this
theorem plain_edges : ∀ es : List Edge, PyData.plainAll (es.map (eD true)) = true ∧ PyData.depthAll (es.map (eD true)) ≤ 3
  | [] => ⟨rfl, Nat.zero_le _⟩
  | e :: es => by
    obtain ⟨h1, h2⟩ := plain_edges es
    constructor
    · simpa [eD, sq, PyData.plainAll, PyData.plain] using h1
    · simp only [List.map_cons, eD, sq, PyData.depthAll, PyData.depth, if_true] at h2 ⊢
      omega
theorem ne_nil_edges (es : List Edge) : cmpD .ne (.list (es.map (eD true))) (.list []) = some (!es.isEmpty) := by
  obtain ⟨h1, h2⟩ := plain_edges es
  have e1 : okD (.list (es.map (eD true))) = true := by
    unfold okD
    rw [Bool.and_eq_true, decide_eq_true_eq]
    refine ⟨by simpa only [PyData.plain] using h1, by simp only [PyData.depth]; omega⟩
  show (if (okD (.list (es.map (eD true))) && okD (.list [])) = true then some (!PyData.eqv (.list (es.map (eD true))) (.list [])) else none) = _
  rw [e1, if_pos (show (true && okD (.list [])) = true from rfl)]
  cases es with
  | nil => simp [PyData.eqv, PyData.eqvAll]
  | cons a b => simp [PyData.eqv, PyData.eqvAll]
section
variable {gl : Nat → Option D} {cf : Cf} {W : Nat}
/-- what a law's own pick does -/
def Picks (cf : Cf) (c : Nat) : Prop := ∀ (xs : List D) (m : Nat), xs.length < 1000 → m < 1000 → ∀ (q n : Nat), q < 2 ^ 50 → ∀ st : Sto, BoxOk q st n →
  ∃ ys st', (∀ y ∈ ys, y ∈ xs) ∧ ys.length = min m xs.length ∧ cf c [.rf n, .d (.list xs), .d (.int (m : Nat))] st = some (.fr (.list ys), st') ∧ BoxOk (q + m) st' n ∧ st'.length = st.length
/-- what a law's own of does -/
def Ofs (cf : Cf) (c : Nat) : Prop := ∀ (b : Bool) (xs : List D), 0 < xs.length → xs.length < 2 ^ 60 → ∀ (q n : Nat), q < 2 ^ 60 → ∀ st : Sto, BoxOk q st n →
  ∃ x st', x ∈ xs ∧ cf c [.rf n, .d (sq b xs)] st = some (.d x, st') ∧ BoxOk (q + 1) st' n ∧ st'.length = st.length
/-- l_rule: box_here most_so signs_so tags found tag sign -/
def T_l_rule (c_l_pick c_l_take c_l_of : Nat) : Ss := (.cons (.asg (.n 3) (.f1 .sorted (.call c_l_pick (.cons (.v 0) (.cons (.lst (.cons (.str "a") (.cons (.str "ab") (.cons (.str "b") (.cons (.str "c") (.cons (.str "x") (.cons (.str "zz") .nil))))))) (.cons (.bin .add (.int 1) (.call c_l_take (.cons (.v 0) (.cons (.v 1) .nil)))) .nil)))))) (.cons (.own 4 (.lst .nil)) (.cons (.for' (.n 5) (.of (.v 3)) (.cons (.for' (.n 6) (.of (.v 2)) (.cons (.ite (.cmp .gt (.call c_l_take (.cons (.v 0) (.cons (.int 3) .nil))) (.int 0)) (.cons (.app 4 (.tup (.cons (.v 5) (.cons (.v 6) (.cons (.call c_l_of (.cons (.v 0) (.cons (.v 3) .nil))) .nil))))) .nil) .nil) .nil)) .nil)) (.cons (.ret (.ite (.cmp .ne (.v 4) (.lst .nil)) (.f1 .tuple (.f1 .sorted (.v 4))) (.tup (.cons (.tup (.cons (.ix (.v 3) (.int 0)) (.cons (.str "1") (.cons (.ix (.v 3) (.neg (.int 1))) .nil)))) .nil)))) .nil))))
theorem rule_ok {cp ct co : Nat} (hp : Picks cf cp) (ht : Takes cf ct) (ho : Ofs cf co) (k : Nat) (hk : 0 < k) (hk2 : k ≤ 6) (signs : List Str) (hs : signs.length ≤ 4) (q n : Nat) (hq : q < 2 ^ 48) (st : Sto) (hb : BoxOk q st n) :
    ∃ es st', es ≠ [] ∧ es.length ≤ max 1 (k * signs.length) ∧ out (execs gl cf W (T_l_rule cp ct co) [.rf n, .sh (.int (k : Nat)), .sh (.list (signs.map PyData.str)), .no, .no, .no, .no] st) = some (.d (webD true true es), st') ∧ BoxOk (q + 100) st' n ∧ st'.length = st.length := by
  obtain ⟨v, s1, v1, v2, v3, v4⟩ := ht q n k hk (by omega) (by omega) st hb
  have hadd : binD .add (.int 1) (.int (v : Nat)) = some (.d (.int ((1 + v : Nat) : Int))) := by
    rw [addI, show ((1 + v : Nat) : Int) = 1 + (v : Nat) by omega]
  obtain ⟨ys, s2, p1, p2, p3, p4, p5⟩ := hp ((["a", "ab", "b", "c", "x", "zz"] : List Str).map PyData.str) (1 + v) (by decide) (by omega) (q + 1) n (by omega) s1 v3
  obtain ⟨l0, rfl, _⟩ := map_of PyData.str ys p1
  rw [List.length_map] at p2
  have p2 : l0.length = 1 + v := by rw [p2]; show min (1 + v) 6 = 1 + v; omega
  obtain ⟨tags, t1, t2, t3⟩ := sorted_str (xs := l0) (by show _ ≤ 16777216; omega)
  have htl : tags.length = 1 + v := by omega
  let E : List Edge → Slot → Slot → Ev := fun es x y => [.rf n, .sh (.int (k : Nat)), .sh (.list (signs.map PyData.str)), .sh (.list (tags.map PyData.str)), .ow (.list (es.map (eD true))), x, y]
  have inner : ∀ (tag : Str) (pre : List Str), pre.length < tags.length → ∀ (es0 : List Edge) (y0 : Slot) (s0 : Sto), es0.length ≤ pre.length * signs.length → BoxOk (q + 10 + 2 * (pre.length * signs.length)) s0 n → s0.length = st.length →
      ∃ e2 s', forL (bindT (.n 6)) (fun e1 s1 => execs gl cf W (.cons (.ite (.cmp .gt (.call ct (.cons (.v 0) (.cons (.int 3) .nil))) (.int 0)) (.cons (.app 4 (.tup (.cons (.v 5) (.cons (.v 6) (.cons (.call co (.cons (.v 0) (.cons (.v 3) .nil))) .nil))))) .nil) .nil) .nil) e1 s1) (signs.map PyData.str) (E es0 (.sh (.str tag)) y0) s0 = some (.nx, e2, s') ∧
        ∃ es y, e2 = E es (.sh (.str tag)) y ∧ es.length ≤ pre.length * signs.length + signs.length ∧ BoxOk (q + 10 + 2 * (pre.length * signs.length + signs.length)) s' n ∧ s'.length = st.length := fun tag pre hpre es0 y0 s0 h1 h2 h3 => by
    have hbig : pre.length * signs.length ≤ 6 * 4 := Nat.mul_le_mul (by omega) hs
    refine forL_ind PyData.str (ys := signs) (fun pre2 env s => ∃ es y, env = E es (.sh (.str tag)) y ∧ es.length ≤ pre.length * signs.length + pre2.length ∧ BoxOk (q + 10 + 2 * (pre.length * signs.length + pre2.length)) s n ∧ s.length = st.length) ?_ signs [] (E es0 (.sh (.str tag)) y0) s0 rfl ⟨es0, y0, rfl, by simpa using h1, by simpa using h2, h3⟩
    intro pre2 sg post env s e ⟨es, y, he, hes, hbx, hst⟩
    subst he
    have hlen := congrArg List.length e
    rw [List.length_append, List.length_cons] at hlen
    obtain ⟨w, s3, w1, w2, w3, w4⟩ := ht (q + 10 + 2 * (pre.length * signs.length + pre2.length)) n 3 (by decide) (by decide) (by omega) s hbx
    have hcond : tru (bor (.cmp .gt (.call ct (.cons (.v 0) (.cons (.int 3) .nil))) (.int 0)) (ev gl cf (.cmp .gt (.call ct (.cons (.v 0) (.cons (.int 3) .nil))) (.int 0)) (E es (.sh (.str tag)) (.sh (.str sg))) s) (E es (.sh (.str tag)) (.sh (.str sg))) s) = some (decide ((0 : Int) < (w : Nat)), s3) :=
      tru_E (bor_E rfl (ev_cmp (bor_E rfl (ev_call (eva_cons (ev_rfQ rfl) (eva_cons ev_int eva_nil)) w2) rfl) (bor_E rfl ev_int rfl) (gt_int _ _)) rfl) rfl
    by_cases hw : (0 : Int) < (w : Nat)
    · rw [decide_eq_true hw] at hcond
      obtain ⟨x, s4, x1, x2, x3, x4⟩ := ho false (tags.map PyData.str) (by rw [List.length_map]; omega) (by rw [List.length_map]; omega) (q + 10 + 2 * (pre.length * signs.length + pre2.length) + 1) n (by omega) s3 w3
      obtain ⟨tg, _, rfl⟩ := List.mem_map.mp x1
      have x2 : cf co [.rf n, .d (.list (tags.map PyData.str))] s3 = some (.d (.str tg), s4) := x2
      refine ⟨E es (.sh (.str tag)) (.sh (.str sg)), E (es ++ [(tag, sg, tg)]) (.sh (.str tag)) (.sh (.str sg)), s4, rfl, exs_iteT hcond (exs_cons ?_ rfl), es ++ [(tag, sg, tg)], .sh (.str sg), rfl, ?_, ?_, by omega⟩
      · have := ex_app (gl := gl) (cf := cf) (W := W) (i := 4) (e := .tup (.cons (.v 5) (.cons (.v 6) (.cons (.call co (.cons (.v 0) (.cons (.v 3) .nil))) .nil)))) (env := E es (.sh (.str tag)) (.sh (.str sg))) (st := s3) (s := s4) (y := eD true (tag, sg, tg)) (xs := es.map (eD true)) (toD_E (ev_tup (evs_cons (toD_E (ev_sh rfl) rfl) (evs_cons (toD_E (ev_sh rfl) rfl) (evs_cons (toD_E (ev_call (eva_cons (ev_rfQ rfl) (eva_cons (ev_sh rfl) eva_nil)) x2) rfl) evs_nil))) (le3 _ _ _)) rfl) rfl (by rw [List.length_map]; show _ < 16777216; omega)
        refine this.trans ?_
        show some (Fl.nx, [Slot.rf n, .sh (.int (k : Nat)), .sh (.list (signs.map PyData.str)), .sh (.list (tags.map PyData.str)), .ow (.list (es.map (eD true) ++ [eD true (tag, sg, tg)])), .sh (.str tag), .sh (.str sg)], s4) = some (Fl.nx, [Slot.rf n, .sh (.int (k : Nat)), .sh (.list (signs.map PyData.str)), .sh (.list (tags.map PyData.str)), .ow (.list ((es ++ [(tag, sg, tg)]).map (eD true))), .sh (.str tag), .sh (.str sg)], s4)
        rw [List.map_append]; rfl
      · rw [List.length_append, List.length_append, List.length_singleton, List.length_singleton]; omega
      · refine x3.mono ?_
        rw [List.length_append, List.length_singleton]; omega
    · rw [decide_eq_false hw] at hcond
      refine ⟨E es (.sh (.str tag)) (.sh (.str sg)), E es (.sh (.str tag)) (.sh (.str sg)), s3, rfl, exs_iteF hcond rfl, es, .sh (.str sg), rfl, ?_, ?_, by omega⟩
      · rw [List.length_append, List.length_singleton]; omega
      · refine w3.mono ?_
        rw [List.length_append, List.length_singleton]; omega
  obtain ⟨e3, s3, hf, es, x, y, he, hes, hbx, hst⟩ := forL_ind (bd := bindT (.n 5)) (body := fun e1 s1 => execs gl cf W (.cons (.for' (.n 6) (.of (.v 2)) (.cons (.ite (.cmp .gt (.call ct (.cons (.v 0) (.cons (.int 3) .nil))) (.int 0)) (.cons (.app 4 (.tup (.cons (.v 5) (.cons (.v 6) (.cons (.call co (.cons (.v 0) (.cons (.v 3) .nil))) .nil))))) .nil) .nil) .nil)) .nil) e1 s1)
    PyData.str (ys := tags) (fun pre env s => ∃ es x y, env = E es x y ∧ es.length ≤ pre.length * signs.length ∧ BoxOk (q + 10 + 2 * (pre.length * signs.length)) s n ∧ s.length = st.length)
    (fun pre tag post env s e ⟨es, x, y, he, hes, hbx, hst⟩ => by
      subst he
      have hlen := congrArg List.length e
      rw [List.length_append, List.length_cons] at hlen
      obtain ⟨e2, s', hfi, es', y', rfl, i1, i2, i3⟩ := inner tag pre (by omega) es y s hes hbx hst
      refine ⟨E es (.sh (.str tag)) y, E es' (.sh (.str tag)) y', s', rfl, exs_cons (ex_for (s := s) (evi_of (bor_sh rfl) rfl) hfi rfl) rfl, es', .sh (.str tag), y', rfl, ?_, ?_, i3⟩
      · rw [List.length_append, List.length_singleton, show (pre.length + 1) * signs.length = pre.length * signs.length + signs.length from Nat.succ_mul _ _]; exact i1
      · rw [List.length_append, List.length_singleton, show (pre.length + 1) * signs.length = pre.length * signs.length + signs.length from Nat.succ_mul _ _]; exact i2)
    tags [] (E [] .no .no) s2 rfl ⟨[], .no, .no, rfl, Nat.zero_le _, p4.mono (by simp; omega), by omega⟩
  subst he
  have hbig : tags.length * signs.length ≤ k * signs.length := Nat.mul_le_mul_right _ (by omega)
  have hbig2 : tags.length * signs.length ≤ 6 * 4 := Nat.mul_le_mul (by omega) hs
  have run0 : ∀ r, out (execs gl cf W (.cons (.ret (.ite (.cmp .ne (.v 4) (.lst .nil)) (.f1 .tuple (.f1 .sorted (.v 4))) (.tup (.cons (.tup (.cons (.ix (.v 3) (.int 0)) (.cons (.str "1") (.cons (.ix (.v 3) (.neg (.int 1))) .nil)))) .nil)))) .nil) (E es x y) s3) = some r → out (execs gl cf W (T_l_rule cp ct co) [.rf n, .sh (.int (k : Nat)), .sh (.list (signs.map PyData.str)), .no, .no, .no, .no] st) = some r := fun r hr => by
    refine o_asg (x := .list (tags.map PyData.str)) (s1 := s2) (toD_E (ev_f1 (bor_E rfl (ev_call (eva_cons (ev_rfQ rfl) (eva_cons (ev_lst (evs_cons (toD_E ev_str rfl) (evs_cons (toD_E ev_str rfl) (evs_cons (toD_E ev_str rfl) (evs_cons (toD_E ev_str rfl) (evs_cons (toD_E ev_str rfl) (evs_cons (toD_E ev_str rfl) evs_nil)))))) (by decide : (6 : Nat) ≤ SL)) (eva_cons (ev_bin (bor_E rfl ev_int rfl) (bor_E rfl (ev_call (eva_cons (ev_rfQ rfl) (eva_cons (ev_sh rfl) eva_nil)) v2) rfl) hadd) eva_nil))) p3) rfl) t1) rfl) rfl ?_
    refine o_own (x := .list []) (s1 := s2) rfl rfl ?_
    exact o_cons (ex_for (s := s2) (evi_of (bor_sh rfl) rfl) hf rfl) hr
  have hcne : bor (.cmp .ne (.v 4) (.lst .nil)) (ev gl cf (.cmp .ne (.v 4) (.lst .nil)) (E es x y) s3) (E es x y) s3 = some (.bool (!es.isEmpty), s3) := bor_E rfl (ev_cmp (bor_ow rfl) (bor_E rfl rfl rfl) (ne_nil_edges es)) rfl
  by_cases h0 : es = []
  · subst h0
    have ht0 : ∃ a, tags[0]? = some a := ⟨tags[0]'(by omega), List.getElem?_eq_getElem _⟩
    obtain ⟨a, ha⟩ := ht0
    have hz : ∃ z, tags[tags.length - 1]? = some z := ⟨tags[tags.length - 1]'(by omega), List.getElem?_eq_getElem _⟩
    obtain ⟨z, hz⟩ := hz
    have i0 : ixD (.list (tags.map PyData.str)) (.int 0) = some (.str a) := atI_nat (j := 0) (by rw [List.getElem?_map, ha]; rfl)
    have i1 : ixD (.list (tags.map PyData.str)) (.int (-1)) = some (.str z) := by
      show (L2.ixN (tags.map PyData.str).length (-1)).bind (fun j => (tags.map PyData.str)[j]?) = _
      have e1 : L2.ixN (tags.map PyData.str).length (-1) = some (tags.length - 1) := by
        unfold L2.ixN
        rw [List.length_map, if_neg (by decide), if_pos (by omega)]
        congr 1; omega
      rw [e1]
      show (tags.map PyData.str)[tags.length - 1]? = _
      rw [List.getElem?_map, hz]; rfl
    refine ⟨[(a, "1", z)], s3, by simp, Nat.le_max_left _ _, run0 _ (o_ret (iteF hcne rfl ?_)), hbx.mono (by omega), hst⟩
    exact ev_tup (evs_cons (toD_E (ev_tup (evs_cons (toD_E (ev_ix (bor_sh rfl) (bor_E rfl ev_int rfl) i0) rfl) (evs_cons (toD_E ev_str rfl) (evs_cons (toD_E (ev_ix (bor_sh rfl) (bor_E rfl (ev_neg (bor_E rfl ev_int rfl)) rfl) i1) rfl) evs_nil))) (le3 _ _ _)) rfl) evs_nil) (by decide : (1 : Nat) ≤ SL)
  · obtain ⟨es', q1, q2, q3⟩ := sorted_edge (xs := es) (by show _ ≤ 16777216; omega)
    refine ⟨es', s3, fun z => h0 (by subst z; exact List.eq_nil_of_length_eq_zero q3.symm), by omega, run0 _ (o_ret (iteT hcne (by cases es with | nil => exact absurd rfl h0 | cons a b => rfl) ?_)), hbx.mono (by omega), hst⟩
    exact ev_f1 (bor_E rfl (ev_f1 (bor_ow rfl) q1) rfl) rfl
end
end Lib

end
section
set_option Elab.async false
set_option linter.all false
set_option maxRecDepth 100000
set_option maxHeartbeats 4000000
namespace Lib
open PySem Pi
/-! ### a law's own ways, counted ways, rounds -/
def wD (w : Way) : D := .tuple (w.toL.map (eD true))
theorem ix_first (w : Way) : ixD (wD w) (.int 0) = some (eD true w.1) := atI_nat (j := 0) rfl
theorem last_at (w : Way) : w.toL[w.2.length]? = some (lastE w) := by
  obtain ⟨e, l⟩ := w
  rcases List.eq_nil_or_concat l with rfl | ⟨l', f, rfl⟩
  · rfl
  · rw [List.concat_eq_append]
    show (e :: (l' ++ [f]))[(l' ++ [f]).length]? = _
    rw [List.length_append, List.length_singleton, List.getElem?_cons_succ, List.getElem?_append_right (Nat.le_refl _), Nat.sub_self, lastE_snoc]; rfl
theorem ix_last (w : Way) : ixD (wD w) (.int (-1)) = some (eD true (lastE w)) := by
  show (L2.ixN (w.toL.map (eD true)).length (-1)).bind (fun j => (w.toL.map (eD true))[j]?) = _
  have e1 : L2.ixN (w.toL.map (eD true)).length (-1) = some w.2.length := by
    have : (w.toL.map (eD true)).length = w.2.length + 1 := by rw [List.length_map]; rfl
    unfold L2.ixN
    rw [this, if_neg (by decide), if_pos (by omega)]
    congr 1; omega
  rw [e1]
  show (w.toL.map (eD true))[w.2.length]? = _
  rw [List.getElem?_map, last_at]; rfl
theorem add_way (w : Way) (f : Edge) (h : w.2.length ≤ 100) : binD .add (wD w) (.tuple [eD true f]) = some (.d (wD (w.1, w.2 ++ [f]))) := by
  show (if (w.toL.map (eD true)).length + 1 ≤ SL then some (Vl.d (.tuple (w.toL.map (eD true) ++ [eD true f]))) else none) = _
  have : (w.toL.map (eD true)).length = w.2.length + 1 := by rw [List.length_map]; rfl
  rw [this, if_pos (by show _ ≤ 16777216; omega)]
  unfold wD Way.toL
  rw [List.map_cons, List.map_cons, List.map_append]; rfl
theorem waysF_size (es : List Edge) : ∀ m, ∀ w ∈ waysF es m, w.2.length = m
  | 0, w, h => by
    obtain ⟨e, he, rfl⟩ := List.mem_map.mp h
    rfl
  | m + 1, w, h => by
    obtain ⟨v, hv, h2⟩ := List.mem_flatMap.mp h
    obtain ⟨f, hf, rfl⟩ := List.mem_map.mp h2
    show (v.2 ++ [f]).length = _
    rw [List.length_append, waysF_size es m v hv]; rfl
theorem add_lists (xs ys : List D) (h : xs.length + ys.length ≤ SL) : binD .add (.list xs) (.list ys) = some (.fr (.list (xs ++ ys))) := if_pos h
theorem sum_ints {α : Type} (g : α → Int) (l : List α) : f1D .sum (.list (l.map fun k => .int (g k))) = some (.d (.int (l.map g).sum)) := by
  show (intsD (l.map fun k => .int (g k))).map (fun ns => Vl.d (.int ns.sum)) = _
  rw [intsD_map]; rfl
section
variable {gl : Nat → Option D} {cf : Cf} {W : Nat}
/-- l_ways: web_so many_so found turn later own far -/
def T_l_ways : Ss := (.cons (.asg (.n 2) (.lc [5] (.tup (.cons (.v 5) .nil)) (.n 5) (.of (.v 0)) .no)) (.cons (.for' (.n 3) (.rng1 (.bin .sub (.v 1) (.int 1))) (.cons (.asg (.n 4) (.lst .nil)) (.cons (.for' (.n 5) (.of (.v 2)) (.cons (.asg (.n 4) (.bin .add (.v 4) (.lc [6] (.bin .add (.v 5) (.tup (.cons (.v 6) .nil))) (.n 6) (.of (.v 0)) (.yes (.cmp .eq (.ix (.v 6) (.int 0)) (.ix (.ix (.v 5) (.neg (.int 1))) (.int 2))))))) .nil)) (.cons (.asg (.n 2) (.v 4)) .nil)))) (.cons (.ret (.v 2)) .nil)))
theorem ways_ok (es : List Edge) (hl : es.length ≤ 12) (m : Nat) (hm : m ≤ 3) (st : Sto) : out (execs gl cf W T_l_ways [.sh (webD true true es), .sh (.int ((m + 1 : Nat) : Int)), .no, .no, .no, .no, .no] st) = some (.d (.list ((waysF es m).map wD)), st) := by
  have hS : ∀ k, k ≤ 3 → (waysF es k).length ≤ 20736 := fun k hk => by
    have h1 := waysF_len es hl k
    have h2 : 12 ^ (k + 1) ≤ 12 ^ 4 := Nat.pow_le_pow_right (by decide) (by omega)
    have h3 : (12 : Nat) ^ 4 = 20736 := by decide
    omega
  let E : List Way → Slot → Slot → Slot → Ev := fun ws x y z => [.sh (webD true true es), .sh (.int ((m + 1 : Nat) : Int)), .sh (.list (ws.map wD)), x, y, z, .no]
  refine o_asg (x := .list ((waysF es 0).map wD)) (s1 := st) (toD_E (w := .fr (.list ((waysF es 0).map wD))) ?_ rfl) rfl ?_
  · rw [show (waysF es 0).map wD = es.map fun e => .tuple [eD true e] by unfold waysF; rw [List.map_map]; rfl]
    exact lcN (xs := es) (a := eD true) (f := fun e => .tuple [eD true e]) (evi_of (bor_sh rfl) (walk_web _ _ _)) (fun _ _ => rfl) (fun e _ => toD_E (ev_tup (evs_cons (toD_E (ev_sh rfl) rfl) evs_nil) (by decide : (1 : Nat) ≤ SL)) rfl) (by show _ ≤ 16777216; omega)
  obtain ⟨e2, s2, hf, x, y, z, he, hst⟩ := forL_ind (bd := bindT (.n 3)) (body := fun e1 s1 => execs gl cf W (.cons (.asg (.n 4) (.lst .nil)) (.cons (.for' (.n 5) (.of (.v 2)) (.cons (.asg (.n 4) (.bin .add (.v 4) (.lc [6] (.bin .add (.v 5) (.tup (.cons (.v 6) .nil))) (.n 6) (.of (.v 0)) (.yes (.cmp .eq (.ix (.v 6) (.int 0)) (.ix (.ix (.v 5) (.neg (.int 1))) (.int 2))))))) .nil)) (.cons (.asg (.n 2) (.v 4)) .nil))) e1 s1)
    (fun i : Nat => .int ((i : Nat) : Int)) (ys := List.range m) (fun pre env s => ∃ x y z, env = E (waysF es pre.length) x y z ∧ s = st)
    (fun pre i post env s e ⟨x, y, z, he, hst⟩ => by
      subst he hst
      have hlen := congrArg List.length e
      rw [List.length_range, List.length_append, List.length_cons] at hlen
      have hinner := forL_ind (bd := bindT (.n 5)) (body := fun e1 s1 => execs gl cf W (.cons (.asg (.n 4) (.bin .add (.v 4) (.lc [6] (.bin .add (.v 5) (.tup (.cons (.v 6) .nil))) (.n 6) (.of (.v 0)) (.yes (.cmp .eq (.ix (.v 6) (.int 0)) (.ix (.ix (.v 5) (.neg (.int 1))) (.int 2))))))) .nil) e1 s1)
        wD (ys := waysF es pre.length) (fun pre2 env s' => ∃ z, env = E (waysF es pre.length) (.sh (.int (i : Nat))) (.sh (.list ((ext es pre2).map wD))) z ∧ s' = s)
        (fun pre2 w post2 env s' e2 ⟨z, he, hst⟩ => by
          subst he hst
          have hlen2 := congrArg List.length e2
          rw [List.length_append, List.length_cons] at hlen2
          have hw : w.2.length = pre.length := waysF_size es pre.length w (by rw [e2]; simp)
          have hpre := hS pre.length (by omega)
          have hx1 := ext_len es pre2
          have hx2 := List.length_filter_le (fun f : Edge => f.1 == (lastE w).2.2) es
          have hx3 : pre2.length * es.length ≤ 20736 * 12 := Nat.mul_le_mul (by omega) hl
          refine ⟨E (waysF es pre.length) (.sh (.int (i : Nat))) (.sh (.list ((ext es pre2).map wD))) (.sh (wD w)), E (waysF es pre.length) (.sh (.int (i : Nat))) (.sh (.list ((ext es (pre2 ++ [w])).map wD))) (.sh (wD w)), s', rfl, exs_cons (ex_asg (x := .list ((ext es (pre2 ++ [w])).map wD)) (s := s') (toD_E (w := .fr (.list ((ext es (pre2 ++ [w])).map wD))) ?_ rfl) rfl) rfl, .sh (wD w), rfl, rfl⟩
          refine ev_bin (bor_sh rfl) (bor_E rfl (lcY (xs := es) (a := eD true) (p := fun f => f.1 == (lastE w).2.2) (f := fun f => wD (w.1, w.2 ++ [f])) (evi_of (bor_sh rfl) (walk_web _ _ _)) (fun _ _ => rfl) (fun f _ => evc_yes (bor_E rfl (ev_cmp (bor_E rfl (ev_ix (bor_sh rfl) (bor_E rfl ev_int rfl) (ix0 true f)) rfl) (bor_E rfl (ev_ix (bor_E rfl (ev_ix (bor_sh rfl) (bor_E rfl (ev_neg (bor_E rfl ev_int rfl)) rfl) (ix_last w)) rfl) (bor_E rfl ev_int rfl) (ix2 true (lastE w))) rfl) (eq_str _ _)) rfl) rfl)
            (fun f _ _ => toD_E (ev_bin (bor_sh rfl) (bor_E rfl (ev_tup (evs_cons (toD_E (ev_sh rfl) rfl) evs_nil) (by decide : (1 : Nat) ≤ SL)) rfl) (add_way w f (by omega))) rfl) (by show _ ≤ 16777216; omega)) rfl) ?_
          rw [add_lists _ _ (by rw [List.length_map, List.length_map]; show _ ≤ 16777216; omega), ext_snoc, List.map_append, List.map_map]; rfl)
        (waysF es pre.length) [] (E (waysF es pre.length) (.sh (.int (i : Nat))) (.sh (.list [])) z) s rfl ⟨z, rfl, rfl⟩
      obtain ⟨e3, s3, hf3, z', he3, hst3⟩ := hinner
      subst he3 hst3
      refine ⟨E (waysF es pre.length) (.sh (.int (i : Nat))) y z, E (waysF es (pre ++ [i]).length) (.sh (.int (i : Nat))) (.sh (.list ((ext es (waysF es pre.length)).map wD))) z', s3, rfl, ?_, _, _, _, rfl, rfl⟩
      refine exs_cons (ex_asg (x := .list []) (s := s3) rfl rfl) ?_
      refine exs_cons (ex_for (s := s3) (evi_of (bor_sh rfl) rfl) hf3 rfl) ?_
      refine exs_cons (ex_asg (x := .list ((ext es (waysF es pre.length)).map wD)) (s := s3) (toD_E (ev_sh rfl) rfl) rfl) ?_
      rw [List.length_append, List.length_singleton]; rfl)
    (List.range m) [] (E (waysF es 0) .no .no .no) st rfl ⟨.no, .no, .no, rfl, rfl⟩
  rw [List.length_range] at he
  subst he hst
  have hsub : binD .sub (.int ((m + 1 : Nat) : Int)) (.int 1) = some (.d (.int (m : Nat))) := by rw [subI, show ((m + 1 : Nat) : Int) - 1 = (m : Nat) by omega]
  refine o_cons (ex_for (s := s2) (evi_rng1 (n := m) (bor_E rfl (ev_bin (bor_sh rfl) (bor_E rfl ev_int rfl) hsub) rfl) (by show _ ≤ 16777216; omega)) hf rfl) ?_
  exact o_ret (ev_sh rfl)
theorem ones_ok {n : Nat} (h0 : 0 < n) (hn : n ≤ 1000) : binD .mul (.tuple [.int 1]) (.int (n : Nat)) = some (.d (vec true n fun _ => 1)) := by
  show (if decide (1 ≤ ((n : Nat) : Int) ∧ ((n : Nat) : Int) ≤ 1000 ∧ 1 ≤ 1000 ∧ 0 < 1) = true then some (Vl.d (.tuple (repD [.int 1] (n : Nat)))) else none) = _
  rw [if_pos (decide_eq_true ⟨by omega, by omega, by omega, by omega⟩)]
  congr 2
  show PyData.tuple _ = PyData.tuple _
  congr 1
  unfold repD
  rw [Int.toNat_natCast]
  clear h0 hn
  induction n with
  | zero => rfl
  | succ n ih => rw [List.replicate_succ', List.flatten_append, ih, List.range_succ, List.map_append]; rfl
/-- ways_counted: web many own -/
def T_ways_counted (c_table c_by_column c_power : Nat) : Ss := (.cons (.asg (.n 2) (.call c_table (.cons (.v 0) .nil))) (.cons (.ret (.call c_by_column (.cons (.call c_power (.cons (.v 2) (.cons (.v 1) .nil))) (.cons (.bin .mul (.tup (.cons (.int 1) .nil)) (.f1 .len (.v 2))) .nil)))) .nil))
theorem ways_counted_ok {ct cb cp : Nat} (b d : Bool) (es : List Edge) (n m : Nat) (h0 : 0 < n) (hn : n ≤ 1000) (T P : Nat → Nat → Int) (st : Sto) (ht : cf ct [.d (webD b d es)] st = some (.d (mat true true n T), st)) (hp : cf cp [.d (mat true true n T), .d (.int (m : Nat))] st = some (.d (mat true true n P), st))
    (hb : cf cb [.d (mat true true n P), .d (vec true n fun _ => 1)] st = some (.d (vec true n fun i => sumN n fun j => P i j * 1), st)) :
    out (execs gl cf W (T_ways_counted ct cb cp) [.sh (webD b d es), .sh (.int (m : Nat)), .no] st) = some (.d (vec true n fun i => sumN n fun j => P i j * 1), st) := by
  have hl : f1D .len (mat true true n T) = some (.d (.int (n : Nat))) := by
    unfold mat
    rw [len_sq, List.length_map, List.length_range]
  refine o_asg (x := mat true true n T) (s1 := st) (toD_E (ev_call (eva_cons (ev_sh rfl) eva_nil) ht) rfl) rfl ?_
  exact o_ret (ev_call (eva_cons (ev_call (eva_cons (ev_sh rfl) (eva_cons (ev_sh rfl) eva_nil)) hp) (eva_cons (ev_bin (bor_E rfl (ev_tup (evs_cons (toD_E ev_int rfl) evs_nil) (by decide : (1 : Nat) ≤ SL)) rfl) (bor_E rfl (ev_f1 (bor_sh rfl) hl) rfl) (ones_ok h0 hn)) eva_nil)) hb)
/-- middle_sum: table place row -/
def T_middle_sum : Ss := (.cons (.ret (.f1 .sum (.lc [1, 2] (.ix (.v 2) (.v 1)) (.t (.cons (.n 1) (.cons (.n 2) .nil))) (.enm (.v 0)) .no))) .nil)
theorem enum_map (g : Nat → D) (n : Nat) : enumD 0 ((List.range n).map g) = (List.range n).map fun i => .tuple [.int ((i : Nat) : Int), g i] := by
  refine List.ext_getElem? fun i => ?_
  rw [enumD_at, List.getElem?_map, List.getElem?_map]
  by_cases h : i < n
  · rw [List.getElem?_range h]; simp
  · rw [List.getElem?_eq_none (by rw [List.length_range]; omega)]; rfl
theorem middle_sum_ok (b c : Bool) (n : Nat) (hn : n ≤ 1000) (f : Nat → Nat → Int) (st : Sto) : out (execs gl cf W T_middle_sum [.sh (mat b c n f), .no, .no] st) = some (.d (.int (sumN n fun i => f i i)), st) := by
  have hi : items (mat b c n f) = some ((List.range n).map fun i => vec c n (f i)) := by cases b <;> rfl
  exact o_ret (ev_f1 (bor_E rfl (lcN (xs := List.range n) (a := fun i => .tuple [.int ((i : Nat) : Int), vec c n (f i)]) (f := fun i => .int (f i i)) (evi_enmQ (bor_sh rfl) hi (enum_map _ n)) (fun _ _ => rfl) (fun i hi => toD_E (ev_ix (bor_sh rfl) (bor_sh rfl) (ix_sq c (at_range (fun j => .int (f i j)) (List.mem_range.mp hi)))) rfl) (by rw [List.length_range]; show _ ≤ 16777216; omega)) rfl) (sum_ints _ _))
/-- rounds: web many -/
def T_rounds (c_middle_sum c_power c_table : Nat) : Ss := (.cons (.ret (.call c_middle_sum (.cons (.call c_power (.cons (.call c_table (.cons (.v 0) .nil)) (.cons (.v 1) .nil))) .nil))) .nil)
theorem rounds_ok {cm cp ct : Nat} (b d : Bool) (es : List Edge) (n m : Nat) (T P : Nat → Nat → Int) (st : Sto) (ht : cf ct [.d (webD b d es)] st = some (.d (mat true true n T), st)) (hp : cf cp [.d (mat true true n T), .d (.int (m : Nat))] st = some (.d (mat true true n P), st))
    (hm : cf cm [.d (mat true true n P)] st = some (.d (.int (sumN n fun i => P i i)), st)) :
    out (execs gl cf W (T_rounds cm cp ct) [.sh (webD b d es), .sh (.int (m : Nat))] st) = some (.d (.int (sumN n fun i => P i i)), st) :=
  o_ret (ev_call (eva_cons (ev_call (eva_cons (ev_call (eva_cons (ev_sh rfl) eva_nil) ht) (eva_cons (ev_sh rfl) eva_nil)) hp) eva_nil) hm)
end
end Lib

end
section
set_option Elab.async false
set_option linter.all false
set_option maxRecDepth 100000
set_option maxHeartbeats 4000000
namespace Lib
open PySem Pi
/-! ### the greatest vector that is carried -/
def led (v : Nat → Int) (own : List Nat) : Int := (own.map v).sum
def Le (n : Nat) (u v : Nat → Int) : Prop := ∀ i, i < n → u i ≤ v i
def Nn (n : Nat) (v : Nat → Int) : Prop := ∀ i, i < n → 0 ≤ v i
def Carr (n : Nat) (E : Nat → List Nat) (b : Int) (v : Nat → Int) : Prop := ∀ i, i < n → b * v i ≤ led v (E i)
def Inn (n : Nat) (E : Nat → List Nat) : Prop := ∀ i, i < n → ∀ k ∈ E i, k < n
def stepF (E : Nat → List Nat) (b : Int) (v : Nat → Int) : Nat → Int := fun i => min (v i) (led v (E i) / b)
def Eqv (n : Nat) (u v : Nat → Int) : Prop := ∀ i, i < n → u i = v i
/-- the greatest one that is carried, none above cap -/
structure Grt (n : Nat) (E : Nat → List Nat) (b : Int) (cap r : Nat → Int) : Prop where
  carr : Carr n E b r
  le : Le n r cap
  nn : Nn n r
  top : ∀ u, Le n u cap → Carr n E b u → Le n u r
theorem led_mono {n : Nat} {u v : Nat → Int} (h : Le n u v) : ∀ {own : List Nat}, (∀ k ∈ own, k < n) → led u own ≤ led v own
  | [], _ => Int.le_refl 0
  | k :: own, hk => by
    show u k + led u own ≤ v k + led v own
    have h1 := h k (hk k (.head _))
    have h2 := led_mono h (own := own) fun j hj => hk j (.tail _ hj)
    omega
theorem led_nn {n : Nat} {v : Nat → Int} (h : Nn n v) : ∀ {own : List Nat}, (∀ k ∈ own, k < n) → 0 ≤ led v own
  | [], _ => Int.le_refl 0
  | k :: own, hk => by
    show 0 ≤ v k + led v own
    have h1 := h k (hk k (.head _))
    have h2 := led_nn h (own := own) fun j hj => hk j (.tail _ hj)
    omega
theorem led_congr {n : Nat} {u v : Nat → Int} (h : Eqv n u v) : ∀ {own : List Nat}, (∀ k ∈ own, k < n) → led u own = led v own
  | [], _ => rfl
  | k :: own, hk => by
    show u k + led u own = v k + led v own
    rw [h k (hk k (.head _)), led_congr h (own := own) fun j hj => hk j (.tail _ hj)]
theorem led_bound {n : Nat} {v : Nat → Int} {c : Int} (h : ∀ i, i < n → v i ≤ c) : ∀ {own : List Nat}, (∀ k ∈ own, k < n) → led v own ≤ c * own.length
  | [], _ => by show (0 : Int) ≤ c * ((0 : Nat) : Int); simp
  | k :: own, hk => by
    show v k + led v own ≤ c * ((own.length : Int) + 1)
    have h1 := h k (hk k (.head _))
    have h2 := led_bound h (own := own) fun j hj => hk j (.tail _ hj)
    rw [Int.mul_add, Int.mul_one]
    omega
theorem sumN_le {f g : Nat → Int} : ∀ {n : Nat}, Le n f g → sumN n f ≤ sumN n g
  | 0, _ => Int.le_refl 0
  | n + 1, h => by
    rw [sumN_succ, sumN_succ]
    have h1 := sumN_le (n := n) fun i hi => h i (by omega)
    have h2 := h n (by omega)
    omega
theorem sumN_lt {f g : Nat → Int} {j : Nat} : ∀ {n : Nat}, Le n f g → j < n → f j < g j → sumN n f < sumN n g
  | 0, _, h, _ => by omega
  | n + 1, h, hj, hlt => by
    rw [sumN_succ, sumN_succ]
    have h1 := sumN_le (n := n) (f := f) (g := g) fun i hi => h i (by omega)
    have h2 := h n (by omega)
    by_cases c : j = n
    · subst c; omega
    · have h3 := sumN_lt (n := n) (f := f) (g := g) (j := j) (fun i hi => h i (by omega)) (by omega) hlt
      omega
theorem sumN_nn {f : Nat → Int} : ∀ {n : Nat}, Nn n f → 0 ≤ sumN n f
  | 0, _ => Int.le_refl 0
  | n + 1, h => by
    rw [sumN_succ]
    have h1 := sumN_nn (n := n) (f := f) fun i hi => h i (by omega)
    have h2 := h n (by omega)
    omega
theorem sumN_cap {f : Nat → Int} {c : Int} : ∀ {n : Nat}, (∀ i, i < n → f i ≤ c) → sumN n f ≤ c * n
  | 0, _ => by show (0 : Int) ≤ c * ((0 : Nat) : Int); simp
  | n + 1, h => by
    rw [sumN_succ]
    have h1 := sumN_cap (n := n) (f := f) (c := c) fun i hi => h i (by omega)
    have h2 := h n (by omega)
    show sumN n f + f n ≤ c * ((n : Int) + 1)
    rw [Int.mul_add, Int.mul_one]
    omega
theorem step_le (n : Nat) (E : Nat → List Nat) (b : Int) (v : Nat → Int) : Le n (stepF E b v) v := fun i _ => Int.min_le_left _ _
theorem step_nn {n : Nat} {E : Nat → List Nat} {b : Int} {v : Nat → Int} (hE : Inn n E) (hb : 0 < b) (h : Nn n v) : Nn n (stepF E b v) := fun i hi =>
  Int.le_min.mpr ⟨h i hi, Int.ediv_nonneg (led_nn h (hE i hi)) (Int.le_of_lt hb)⟩
theorem step_top {n : Nat} {E : Nat → List Nat} {b : Int} {u v : Nat → Int} (hE : Inn n E) (hb : 0 < b) (hu : Carr n E b u) (h : Le n u v) : Le n u (stepF E b v) := fun i hi =>
  Int.le_min.mpr ⟨h i hi, (Int.le_ediv_iff_mul_le hb).mpr (by rw [Int.mul_comm]; exact Int.le_trans (hu i hi) (led_mono h (hE i hi)))⟩
theorem step_fix {n : Nat} {E : Nat → List Nat} {b : Int} {v : Nat → Int} (hb : 0 < b) (h : Eqv n (stepF E b v) v) : Carr n E b v := fun i hi => by
  have h1 : v i ≤ led v (E i) / b := by
    have := h i hi
    rw [← this]
    exact Int.min_le_right _ _
  have := (Int.le_ediv_iff_mul_le hb).mp h1
  rw [Int.mul_comm]; exact this
theorem ne_lt {n : Nat} {u v : Nat → Int} (h : Le n u v) (hn : ¬ Eqv n u v) : ∃ j, j < n ∧ u j < v j := by
  apply Classical.byContradiction
  intro c
  refine hn fun i hi => ?_
  have h1 := h i hi
  have h2 : ¬ u i < v i := fun z => c ⟨i, hi, z⟩
  omega
/-- one number is lowered by one -/
def downF (v : Nat → Int) (s : Nat) : Nat → Int := fun i => if i = s then v i - 1 else v i
theorem down_top {n : Nat} {E : Nat → List Nat} {b : Int} {u v : Nat → Int} {s : Nat} (hE : Inn n E) (hb : 0 < b) (hs : s < n) (hl : led v (E s) < b * v s) (hu : Carr n E b u) (h : Le n u v) : Le n u (downF v s) := fun i hi => by
  unfold downF
  by_cases c : i = s
  · subst c
    rw [if_pos rfl]
    have h1 := Int.lt_of_le_of_lt (Int.le_trans (hu i hi) (led_mono h (hE i hi))) hl
    have := Int.lt_of_mul_lt_mul_left h1 (Int.le_of_lt hb)
    omega
  · rw [if_neg c]; exact h i hi
theorem down_pos {n : Nat} {E : Nat → List Nat} {b : Int} {v : Nat → Int} {s : Nat} (hE : Inn n E) (hs : s < n) (hl : led v (E s) < b * v s) (h : Nn n v) : 0 < v s := by
  have h1 := led_nn h (hE s hs)
  have h2 := h s hs
  apply Classical.byContradiction
  intro c
  have : v s = 0 := by omega
  rw [this, Int.mul_zero] at hl
  omega
theorem down_nn {n : Nat} {E : Nat → List Nat} {b : Int} {v : Nat → Int} {s : Nat} (hE : Inn n E) (hs : s < n) (hl : led v (E s) < b * v s) (h : Nn n v) : Nn n (downF v s) := fun i hi => by
  have h1 := down_pos hE hs hl h
  have h2 := h i hi
  unfold downF
  by_cases c : i = s
  · subst c; rw [if_pos rfl]; omega
  · rw [if_neg c]; exact h2
theorem down_le (n : Nat) (v : Nat → Int) (s : Nat) : Le n (downF v s) v := fun i _ => by
  unfold downF
  by_cases c : i = s
  · rw [if_pos c]; omega
  · rw [if_neg c]; exact Int.le_refl _
theorem down_lt (v : Nat → Int) (s : Nat) : downF v s s < v s := by
  unfold downF
  rw [if_pos rfl]; omega
theorem Grt.eq {n : Nat} {E : Nat → List Nat} {b : Int} {cap r r' : Nat → Int} (h : Grt n E b cap r) (h' : Grt n E b cap r') : Eqv n r r' := fun i hi => by
  have h1 := h.top r' h'.le h'.carr i hi
  have h2 := h'.top r h.le h.carr i hi
  omega
theorem vec_congr {b : Bool} {n : Nat} {u v : Nat → Int} (h : Eqv n u v) : vec b n u = vec b n v := by
  unfold vec
  refine congrArg (sq b) (List.map_congr_left fun i hi => ?_)
  rw [h i (List.mem_range.mp hi)]
end Lib

end
section
set_option Elab.async false
set_option linter.all false
set_option maxRecDepth 100000
set_option maxHeartbeats 4000000
namespace Lib
open PySem Pi
/-! ### vectors as values -/
def eqF (n : Nat) (u v : Nat → Int) : Bool := (List.range n).all fun i => decide (u i = v i)
theorem eqF_iff {n : Nat} {u v : Nat → Int} : eqF n u v = true ↔ Eqv n u v := by
  unfold eqF
  rw [List.all_eq_true]
  exact ⟨fun h i hi => of_decide_eq_true (h i (List.mem_range.mpr hi)), fun h i hi => decide_eq_true (h i (List.mem_range.mp hi))⟩
theorem eqvAll_ints (u v : Nat → Int) : ∀ l : List Nat, PyData.eqvAll (l.map fun i => .int (u i)) (l.map fun i => .int (v i)) = l.all fun i => decide (u i = v i)
  | [] => by simp [PyData.eqvAll]
  | i :: l => by
    rw [List.map_cons, List.map_cons, List.all_cons, PyData.eqvAll, PyData.eqv, eqvAll_ints u v l]
    by_cases h : u i = v i
    · simp [h]
    · simp [h]
theorem plainAll_ints : ∀ l : List Int, PyData.plainAll (l.map PyData.int) = true
  | [] => by simp [PyData.plainAll]
  | i :: l => by rw [List.map_cons, PyData.plainAll, plainAll_ints l]; simp [PyData.plain]
theorem depthAll_ints : ∀ l : List Int, PyData.depthAll (l.map PyData.int) = 0
  | [] => by simp [PyData.depthAll]
  | i :: l => by rw [List.map_cons, PyData.depthAll, depthAll_ints l]; simp [PyData.depth]
theorem vec_map (b : Bool) (n : Nat) (v : Nat → Int) : vec b n v = sq b (((List.range n).map v).map PyData.int) := by
  unfold vec
  rw [List.map_map]; rfl
theorem ok_vec (b : Bool) (n : Nat) (v : Nat → Int) : okD (vec b n v) = true := by
  rw [vec_map]
  unfold okD
  cases b
  · show (PyData.plain (.list _) && decide (PyData.depth (.list _) ≤ 60)) = true
    rw [PyData.plain, plainAll_ints, PyData.depth, depthAll_ints]; rfl
  · show (PyData.plain (.tuple _) && decide (PyData.depth (.tuple _) ≤ 60)) = true
    rw [PyData.plain, plainAll_ints, PyData.depth, depthAll_ints]; rfl
theorem eq_vec (n : Nat) (u v : Nat → Int) : cmpD .eq (vec true n u) (vec true n v) = some (eqF n u v) := by
  show (if okD (vec true n u) && okD (vec true n v) then some (PyData.eqv (vec true n u) (vec true n v)) else none) = _
  rw [ok_vec, ok_vec, if_pos (show (true && true) = true from rfl)]
  show some (PyData.eqv (.tuple _) (.tuple _)) = _
  rw [PyData.eqv, eqvAll_ints]; rfl
theorem zip_sq2 (b c : Bool) (xs ys : List D) : zipQ (sq b xs) (sq c ys) = some (zipD xs ys) := by cases b <;> cases c <;> rfl
theorem len_vec (b : Bool) (n : Nat) (v : Nat → Int) : f1D .len (vec b n v) = some (.d (.int (n : Nat))) := by
  unfold vec
  rw [len_sq, List.length_map, List.length_range]
theorem min_int (i j : Int) : f2D .min (.int i) (.int j) = some (.d (.int (min i j))) := by
  show some (Vl.d (.int (if j < i then j else i))) = _
  congr 3
  split <;> omega
theorem range_SL {n : Nat} (h : n ≤ 1000) : (List.range n).length ≤ SL := by rw [List.length_range]; exact Nat.le_trans h (by decide)
/-- the places of a name's lines -/
def ownL (own : List Nat) : D := .list (own.map fun k => .int ((k : Nat) : Int))
def endsL (n : Nat) (E : Nat → List Nat) : D := .list ((List.range n).map fun i => ownL (E i))
def Sht (n : Nat) (E : Nat → List Nat) : Prop := ∀ i, i < n → (E i).length ≤ 1000
def carrB (n : Nat) (E : Nat → List Nat) (b : Int) (v : Nat → Int) : Bool := (List.range n).all fun i => decide (b * v i ≤ led v (E i))
theorem carrB_iff {n : Nat} {E : Nat → List Nat} {b : Int} {v : Nat → Int} : carrB n E b v = true ↔ Carr n E b v := by
  unfold carrB
  rw [List.all_eq_true]
  exact ⟨fun h i hi => of_decide_eq_true (h i (List.mem_range.mpr hi)), fun h i hi => decide_eq_true (h i (List.mem_range.mp hi))⟩
def posB (n : Nat) (v : Nat → Int) : Bool := (List.range n).any fun i => decide (0 < v i)
theorem posB_congr {n : Nat} {u v : Nat → Int} (h : Eqv n u v) : posB n u = posB n v := by
  unfold posB
  rw [Bool.eq_iff_iff, List.any_eq_true, List.any_eq_true]
  exact ⟨fun ⟨i, hi, h2⟩ => ⟨i, hi, by rw [← h i (List.mem_range.mp hi)]; exact h2⟩, fun ⟨i, hi, h2⟩ => ⟨i, hi, by rw [h i (List.mem_range.mp hi)]; exact h2⟩⟩
/-- a vector, or none -/
def grD (n : Nat) (r : Nat → Int) : D := if posB n r = true then vec true n r else .none
theorem grD_congr {n : Nat} {u v : Nat → Int} (h : Eqv n u v) : grD n u = grD n v := by
  unfold grD
  rw [posB_congr h, vec_congr h]
section
variable {gl : Nat → Option D} {cf : Cf} {W : Nat}
/-- the sum over a name's lines -/
theorem ev_led {i j k : Nat} {b : Bool} {n : Nat} {v : Nat → Int} {own : List Nat} {env : Ev} {st : Sto} (hi : look env i = .sh (vec b n v)) (hj : look env j = .sh (ownL own)) (hk : k < env.length) (hik : i ≠ k) (ho : ∀ m ∈ own, m < n) (hl : own.length ≤ 1000) :
    ev gl cf (.f1 .sum (.lc [k] (.ix (.v i) (.v k)) (.n k) (.of (.v j)) .no)) env st = some (.d (.int (led v own)), st) := by
  refine ev_f1 (bor_E rfl (lcN (xs := own) (a := fun m => .int ((m : Nat) : Int)) (f := fun m => .int (v m)) (E1 := fun m => (env.set k .no).set k (.sh (.int ((m : Nat) : Int)))) (evi_of (bor_sh hj) rfl) (fun m _ => ?_) (fun m hm => ?_) (Nat.le_trans hl (by decide))) rfl) (sum_ints v own)
  · show (if k < (env.set k .no).length then some ((env.set k .no).set k (.sh (.int ((m : Nat) : Int)))) else none) = _
    rw [if_pos (by rw [List.length_set]; exact hk)]
  · have hk2 : k < (env.set k .no).length := by rw [List.length_set]; exact hk
    refine toD_E (ev_ix (bor_sh ?_) (bor_sh ?_) (ix_sq b (at_range (fun i => .int (v i)) (ho m hm)))) rfl
    · rw [look_set _ _ _ _ hk2, if_neg hik, look_set _ _ _ _ hk, if_neg hik]; exact hi
    · rw [look_set _ _ _ _ hk2, if_pos rfl]
/-- is_number: value -/
def T_is_number : Ss := (.cons (.ret (.and (.isi (.v 0) [.int]) (.not (.isi (.v 0) [.bool])))) .nil)
theorem is_number_ok (i : Int) (st : Sto) : out (execs gl cf W T_is_number [.sh (.int i)] st) = some (.d (.bool true), st) := rfl
/-- is_count: value -/
def T_is_count (c_is_number : Nat) : Ss := (.cons (.ret (.and (.call c_is_number (.cons (.v 0) .nil)) (.cmp .ge (.v 0) (.int 0)))) .nil)
theorem is_count_ok {c : Nat} (i : Int) (st : Sto) (hc : cf c [.d (.int i)] st = some (.d (.bool true), st)) : out (execs gl cf W (T_is_count c) [.sh (.int i)] st) = some (.d (.bool (decide (0 ≤ i))), st) :=
  o_ret (ev_andT (toD_E (ev_call (eva_cons (ev_sh rfl) eva_nil) hc) rfl) rfl (ev_cmp (bor_sh rfl) (bor_E rfl ev_int rfl) (ge_int _ _)))
/-- is_carried: ends n numbers own number end -/
def T_is_carried : Ss := (.cons (.ret (.f1 .all (.lc [3, 4] (.cmp .ge (.f1 .sum (.lc [5] (.ix (.v 2) (.v 5)) (.n 5) (.of (.v 3)) .no)) (.bin .mul (.v 1) (.v 4))) (.t (.cons (.n 3) (.cons (.n 4) .nil))) (.zip (.v 0) (.v 2)) .no))) .nil)
theorem is_carried_ok (c : Bool) {n : Nat} (hn : n ≤ 1000) {E : Nat → List Nat} (hE : Inn n E) (hS : Sht n E) {b : Int} (hb : Sml b) (v : Nat → Int) (st : Sto) :
    out (execs gl cf W T_is_carried [.sh (endsL n E), .sh (.int b), .sh (vec c n v), .no, .no, .no] st) = some (.d (.bool (carrB n E b v)), st) := by
  refine o_ret (ev_f1 (bor_E rfl (lcN (xs := List.range n) (a := fun i => .tuple [ownL (E i), .int (v i)]) (f := fun i => .bool (decide (b * v i ≤ led v (E i)))) (E1 := fun i => [.sh (endsL n E), .sh (.int b), .sh (vec c n v), .sh (ownL (E i)), .sh (.int (v i)), .no]) (evi_zip (bor_sh rfl) (bor_sh rfl) ?_) (fun _ _ => rfl) (fun i hi => ?_) (range_SL hn)) rfl) (all_bools _ _))
  · refine (zip_sq2 false c _ _).trans ?_
    rw [zipD_map]
  · have hi : i < n := List.mem_range.mp hi
    exact toD_E (ev_cmp (bor_E rfl (ev_led rfl rfl (by show (5 : Nat) < 6; decide) (by decide) (hE i hi) (hS i hi)) rfl) (bor_E rfl (ev_bin (bor_sh rfl) (bor_sh rfl) (mulL hb)) rfl) (ge_int _ _)) rfl
/-- are_counts: thing many number -/
def T_are_counts (c_is_count : Nat) : Ss := (.cons (.ite (.or (.not (.isi (.v 0) [.tuple])) (.or (.cmp .ne (.f1 .len (.v 0)) (.v 1)) (.not (.f1 .all (.lc [2] (.call c_is_count (.cons (.v 2) .nil)) (.n 2) (.of (.v 0)) .no))))) (.cons (.ret (.bl false)) .nil) .nil) (.cons (.ret (.f1 .any (.lc [2] (.cmp .gt (.v 2) (.int 0)) (.n 2) (.of (.v 0)) .no))) .nil))
theorem ne_same (i : Int) : cmpD .ne (.int i) (.int i) = some false := by
  show (if okD (.int i) && okD (.int i) then some (!PyData.eqv (.int i) (.int i)) else none) = _
  rw [ok_int, if_pos (show (true && true) = true from rfl), PyData.eqv, beq_self_eq_true]; rfl
theorem are_counts_ok {c : Nat} {n : Nat} (hn : n ≤ 1000) {v : Nat → Int} (hv : Nn n v) (st : Sto) (hc : ∀ i : Int, cf c [.d (.int i)] st = some (.d (.bool (decide (0 ≤ i))), st)) :
    out (execs gl cf W (T_are_counts c) [.sh (vec true n v), .sh (.int (n : Nat)), .no] st) = some (.d (.bool (posB n v)), st) := by
  have h1 : ev gl cf (.lc [2] (.call c (.cons (.v 2) .nil)) (.n 2) (.of (.v 0)) .no) [.sh (vec true n v), .sh (.int (n : Nat)), .no] st = some (.fr (.list ((List.range n).map fun i => .bool (decide (0 ≤ v i)))), st) :=
    lcN (xs := List.range n) (a := fun i => .int (v i)) (f := fun i => .bool (decide (0 ≤ v i))) (E1 := fun i => [.sh (vec true n v), .sh (.int (n : Nat)), .sh (.int (v i))]) (evi_of (bor_sh rfl) rfl) (fun _ _ => rfl) (fun i _ => toD_E (ev_call (eva_cons (ev_sh rfl) eva_nil) (hc (v i))) rfl) (range_SL hn)
  have h2 : ((List.range n).all fun i => decide (0 ≤ v i)) = true := List.all_eq_true.mpr fun i hi => decide_eq_true (hv i (List.mem_range.mp hi))
  have h3 := all_bools (fun i => decide (0 ≤ v i)) (List.range n)
  rw [h2] at h3
  refine o_iteF (s := st) (tru_E (x := .bool false) (bor_E rfl (ev_or2 (w := .d (.bool false)) (show ev gl cf (.not (.isi (.v 0) [.tuple])) [.sh (vec true n v), .sh (.int (n : Nat)), .no] st = some (.d (.bool false), st) from rfl) rfl rfl (ev_or2 (w := .d (.bool false)) (ev_cmp (bor_E rfl (ev_f1 (bor_sh rfl) (len_vec _ _ _)) rfl) (bor_sh rfl) (ne_same _)) rfl rfl (ev_not (bor_E rfl (ev_f1 (bor_E rfl h1 rfl) h3) rfl) rfl))) rfl) rfl) ?_
  refine o_ret (ev_f1 (bor_E rfl (lcN (xs := List.range n) (a := fun i => .int (v i)) (f := fun i => .bool (decide (0 < v i))) (E1 := fun i => [.sh (vec true n v), .sh (.int (n : Nat)), .sh (.int (v i))]) (evi_of (bor_sh rfl) rfl) (fun _ _ => rfl) (fun i _ => toD_E (ev_cmp (bor_sh rfl) (bor_E rfl ev_int rfl) (gt_int _ _)) rfl) (range_SL hn)) rfl) (any_bools _ _))
/-- is_vector: web n thing ends -/
def T_is_vector (c_ends_from c_are_counts c_is_carried : Nat) : Ss := (.cons (.asg (.n 3) (.call c_ends_from (.cons (.v 0) .nil))) (.cons (.ret (.and (.call c_are_counts (.cons (.v 2) (.cons (.f1 .len (.v 3)) .nil))) (.call c_is_carried (.cons (.v 3) (.cons (.v 1) (.cons (.v 2) .nil)))))) .nil))
theorem is_vector_ok {ce ca cc : Nat} (x : D) {n : Nat} {E : Nat → List Nat} {b : Int} {v : Nat → Int} (st : Sto) (he : cf ce [.d x] st = some (.fr (endsL n E), st)) (ha : cf ca [.d (vec true n v), .d (.int (n : Nat))] st = some (.d (.bool (posB n v)), st))
    (hc : cf cc [.d (endsL n E), .d (.int b), .d (vec true n v)] st = some (.d (.bool (carrB n E b v)), st)) :
    out (execs gl cf W (T_is_vector ce ca cc) [.sh x, .sh (.int b), .sh (vec true n v), .no] st) = some (.d (.bool (posB n v && carrB n E b v)), st) := by
  have hl : f1D .len (endsL n E) = some (.d (.int (n : Nat))) := by
    show some (Vl.d (.int (((List.range n).map fun i => ownL (E i)).length : Nat))) = _
    rw [List.length_map, List.length_range]
  refine o_asg (x := endsL n E) (toD_E (ev_call (eva_cons (ev_sh rfl) eva_nil) he) rfl) rfl (o_ret ?_)
  exact ev_andB (ev_call (eva_cons (ev_sh rfl) (eva_cons (ev_f1 (bor_sh rfl) hl) eva_nil)) ha) fun _ => ev_call (eva_cons (ev_sh rfl) (eva_cons (ev_sh rfl) (eva_cons (ev_sh rfl) eva_nil))) hc
/-- lowered: ends n numbers here later own number end -/
def lowB : Ss := (.cons (.asg (.n 4) (.f1 .tuple (.lc [5, 6] (.f2 .min (.v 6) (.bin .fdiv (.f1 .sum (.lc [7] (.ix (.v 3) (.v 7)) (.n 7) (.of (.v 5)) .no)) (.v 1))) (.t (.cons (.n 5) (.cons (.n 6) .nil))) (.zip (.v 0) (.v 3)) .no))) (.cons (.ite (.cmp .eq (.v 4) (.v 3)) (.cons (.ret (.v 3)) .nil) .nil) (.cons (.asg (.n 3) (.v 4)) .nil)))
def T_lowered : Ss := (.cons (.asg (.n 3) (.f1 .tuple (.v 2))) (.cons (.wh (.bl true) lowB) .nil))
abbrev lowE (n : Nat) (E : Nat → List Nat) (b : Int) (z : D) (v : Nat → Int) (x : Slot) : Ev := [.sh (endsL n E), .sh (.int b), .sh z, .sh (vec true n v), x, .no, .no, .no]
theorem low_asg {n : Nat} (hn : n ≤ 1000) {E : Nat → List Nat} (hE : Inn n E) (hS : Sht n E) {b : Int} (hb : 0 < b) (hb2 : b.natAbs.log2 < 9000) (z : D) (v : Nat → Int) (x : Slot) (st : Sto) :
    exec gl cf W (.asg (.n 4) (.f1 .tuple (.lc [5, 6] (.f2 .min (.v 6) (.bin .fdiv (.f1 .sum (.lc [7] (.ix (.v 3) (.v 7)) (.n 7) (.of (.v 5)) .no)) (.v 1))) (.t (.cons (.n 5) (.cons (.n 6) .nil))) (.zip (.v 0) (.v 3)) .no))) (lowE n E b z v x) st = some (.nx, lowE n E b z v (.sh (vec true n (stepF E b v))), st) := by
  refine ex_asg (x := vec true n (stepF E b v)) (toD_E (ev_f1 (bor_E rfl (lcN (xs := List.range n) (a := fun i => .tuple [ownL (E i), .int (v i)]) (f := fun i => .int (stepF E b v i)) (E1 := fun i => [.sh (endsL n E), .sh (.int b), .sh z, .sh (vec true n v), x, .sh (ownL (E i)), .sh (.int (v i)), .no]) (evi_zip (bor_sh rfl) (bor_sh rfl) ?_) (fun _ _ => rfl) (fun i hi => ?_) (range_SL hn)) rfl) rfl) rfl) rfl
  · refine (zip_sq2 false true _ _).trans ?_
    rw [zipD_map]
  · have hi : i < n := List.mem_range.mp hi
    exact toD_E (ev_f2 (bor_sh rfl) (bor_E rfl (ev_bin (bor_E rfl (ev_led rfl rfl (by show (7 : Nat) < 8; decide) (by decide) (hE i hi) (hS i hi)) rfl) (bor_sh rfl) (fdivP hb hb2)) rfl) (min_int _ _)) rfl
abbrev lowT (gl : Nat → Option D) (cf : Cf) : Ev → Sto → Option (Bool × Sto) := fun e1 s1 => tru (bor (.bl true) (ev gl cf (.bl true) e1 s1) e1 s1)
theorem low_loop {n : Nat} (hn : n ≤ 1000) {E : Nat → List Nat} (hE : Inn n E) (hS : Sht n E) {b : Int} (hb : 0 < b) (hb2 : b.natAbs.log2 < 9000) (z : D) (cap : Nat → Int) (st : Sto) : ∀ (N : Nat) (v : Nat → Int) (x : Slot), sumN n v < (N : Int) → Nn n v → Le n v cap → (∀ u, Le n u cap → Carr n E b u → Le n u v) →
    ∃ r e2, whL (lowT gl cf) (fun e1 s1 => execs gl cf W lowB e1 s1) N (lowE n E b z v x) st = some (.rt (.d (vec true n r)), e2, st) ∧ Grt n E b cap r
  | 0, v, x, h, hv, _, _ => by have := sumN_nn hv; omega
  | N + 1, v, x, h, hv, hc, ht => by
    have htt : lowT gl cf (lowE n E b z v x) st = some (true, st) := rfl
    have hcmp : tru (bor (.cmp .eq (.v 4) (.v 3)) (ev gl cf (.cmp .eq (.v 4) (.v 3)) (lowE n E b z v (.sh (vec true n (stepF E b v)))) st) (lowE n E b z v (.sh (vec true n (stepF E b v)))) st) = some (eqF n (stepF E b v) v, st) :=
      tru_E (bor_E rfl (ev_cmp (bor_sh rfl) (bor_sh rfl) (eq_vec n _ _)) rfl) rfl
    by_cases c : eqF n (stepF E b v) v = true
    · rw [c] at hcmp
      exact ⟨v, _, whL_rt htt (exs_cons (low_asg hn hE hS hb hb2 z v x st) (exs_iteT hcmp (exs_rt (ex_ret (ev_sh rfl))))), step_fix hb (eqF_iff.mp c), hc, hv, ht⟩
    · have c' : eqF n (stepF E b v) v = false := by simpa using c
      rw [c'] at hcmp
      obtain ⟨j, hj, hlt⟩ := ne_lt (step_le n E b v) fun q => c (eqF_iff.mpr q)
      have hs := sumN_lt (step_le n E b v) hj hlt
      obtain ⟨r, e2, h1, h2⟩ := low_loop hn hE hS hb hb2 z cap st N (stepF E b v) (.sh (vec true n (stepF E b v))) (by omega) (step_nn hE hb hv) (fun i hi => Int.le_trans (step_le n E b v i hi) (hc i hi)) fun u h1 h2 => step_top hE hb h2 (ht u h1 h2)
      refine ⟨r, e2, ?_, h2⟩
      have hbody : execs gl cf W lowB (lowE n E b z v x) st = some (.nx, lowE n E b z (stepF E b v) (.sh (vec true n (stepF E b v))), st) := by
        refine exs_cons (low_asg hn hE hS hb hb2 z v x st) (exs_iteF hcmp ?_)
        exact exs_cons (ss := .nil) (ex_asg (t := .n 3) (e := .v 4) (x := vec true n (stepF E b v)) (toD_E (ev_sh rfl) rfl) rfl) exs_nil
      exact (whL_turn (body := fun e1 s1 => execs gl cf W lowB e1 s1) (n := N) htt hbody).trans h1
theorem lowered_ok (c : Bool) {n : Nat} (hn : n ≤ 1000) {E : Nat → List Nat} (hE : Inn n E) (hS : Sht n E) {b : Int} (hb : 0 < b) (hb2 : b.natAbs.log2 < 9000) {cap : Nat → Int} (h0 : Nn n cap) (hW : sumN n cap < (W : Int)) (st : Sto) :
    ∃ r, out (execs gl cf W T_lowered [.sh (endsL n E), .sh (.int b), .sh (vec c n cap), .no, .no, .no, .no, .no] st) = some (.d (vec true n r), st) ∧ Grt n E b cap r := by
  obtain ⟨r, e2, h1, h2⟩ := low_loop (gl := gl) (cf := cf) (W := W) hn hE hS hb hb2 (vec c n cap) cap st W cap .no hW h0 (fun _ _ => Int.le_refl _) fun u h _ => h
  refine ⟨r, ?_, h2⟩
  refine o_asg (x := vec true n cap) (s1 := st) (toD_E (ev_f1 (bor_sh rfl) (by cases c <;> rfl)) rfl) rfl ?_
  exact (exs_rt' (s := .wh (.bl true) lowB) (ss := .nil) (env := lowE n E b (vec c n cap) cap .no) h1).trans rfl
theorem rep_vec (n : Nat) (c : Int) : repD [.int c] ((n : Nat) : Int) = (List.range n).map fun _ => .int c := by
  unfold repD
  rw [Int.toNat_natCast]
  induction n with
  | zero => rfl
  | succ n ih =>
    rw [List.replicate_succ', List.flatten_append, ih, List.range_succ, List.map_append]; rfl
/-- greatest_vector: web n most ends found number -/
def T_greatest_vector (c_ends_from c_lowered : Nat) : Ss := (.cons (.asg (.n 3) (.call c_ends_from (.cons (.v 0) .nil))) (.cons (.asg (.n 4) (.call c_lowered (.cons (.v 3) (.cons (.v 1) (.cons (.rep (.lst (.cons (.v 2) .nil)) (.f1 .len (.v 3))) .nil))))) (.cons (.ret (.ite (.f1 .any (.lc [5] (.cmp .gt (.v 5) (.int 0)) (.n 5) (.of (.v 4)) .no)) (.v 4) .non)) .nil)))
theorem greatest_ok {ce cl : Nat} (x : D) {n : Nat} (hn : n ≤ 1000) {E : Nat → List Nat} {b c : Int} {r : Nat → Int} (st : Sto) (he : cf ce [.d x] st = some (.fr (endsL n E), st)) (hl : cf cl [.d (endsL n E), .d (.int b), .d (vec false n fun _ => c)] st = some (.d (vec true n r), st)) :
    out (execs gl cf W (T_greatest_vector ce cl) [.sh x, .sh (.int b), .sh (.int c), .no, .no, .no] st) = some (.d (grD n r), st) := by
  have hlen : f1D .len (endsL n E) = some (.d (.int (n : Nat))) := by
    show some (Vl.d (.int (((List.range n).map fun i => ownL (E i)).length : Nat))) = _
    rw [List.length_map, List.length_range]
  have hrep : ev gl cf (.rep (.lst (.cons (.v 2) .nil)) (.f1 .len (.v 3))) [.sh x, .sh (.int b), .sh (.int c), .sh (endsL n E), .no, .no] st = some (.fr (vec false n fun _ => c), st) := by
    have h := ev_rep (gl := gl) (cf := cf) (a := .lst (.cons (.v 2) .nil)) (b := .f1 .len (.v 3)) (env := [.sh x, .sh (.int b), .sh (.int c), .sh (endsL n E), .no, .no]) (st := st) (xs := [.int c]) (k := (n : Nat)) (ev_lst (evs_cons (toD_E (ev_sh rfl) rfl) evs_nil) (by decide : (1 : Nat) ≤ SL)) (bor_E rfl (ev_f1 (bor_sh rfl) hlen) rfl) ⟨by omega, by omega, by show 1 * (n : Int).toNat ≤ 16777216; omega⟩
    rw [rep_vec] at h
    exact h
  refine o_asg (x := endsL n E) (toD_E (ev_call (eva_cons (ev_sh rfl) eva_nil) he) rfl) rfl ?_
  refine o_asg (x := vec true n r) (s1 := st) (toD_E (ev_call (eva_cons (ev_sh rfl) (eva_cons (ev_sh rfl) (eva_cons hrep eva_nil))) hl) rfl) rfl (o_ret ?_)
  have hany : bor (.f1 .any (.lc [5] (.cmp .gt (.v 5) (.int 0)) (.n 5) (.of (.v 4)) .no)) (ev gl cf (.f1 .any (.lc [5] (.cmp .gt (.v 5) (.int 0)) (.n 5) (.of (.v 4)) .no)) [.sh x, .sh (.int b), .sh (.int c), .sh (endsL n E), .sh (vec true n r), .no] st) [.sh x, .sh (.int b), .sh (.int c), .sh (endsL n E), .sh (vec true n r), .no] st = some (.bool (posB n r), st) :=
    bor_E rfl (ev_f1 (bor_E rfl (lcN (xs := List.range n) (a := fun i => .int (r i)) (f := fun i => .bool (decide (0 < r i))) (E1 := fun i => [.sh x, .sh (.int b), .sh (.int c), .sh (endsL n E), .sh (vec true n r), .sh (.int (r i))]) (evi_of (bor_sh rfl) rfl) (fun _ _ => rfl) (fun i _ => toD_E (ev_cmp (bor_sh rfl) (bor_E rfl ev_int rfl) (gt_int _ _)) rfl) (range_SL hn)) rfl) (any_bools _ _)) rfl
  unfold grD
  by_cases hp : posB n r = true
  · rw [if_pos hp]
    exact iteT hany (by rw [hp]; rfl) (ev_sh rfl)
  · rw [if_neg hp]
    exact iteF hany (by rw [Bool.not_eq_true] at hp; rw [hp]; rfl) rfl
end
end Lib

end
section
set_option Elab.async false
set_option linter.all false
set_option maxRecDepth 100000
set_option maxHeartbeats 4000000
namespace Lib
open PySem Pi
/-! ### a web's lines by places -/
def idxS (l : List Str) (x : Str) : Nat := (l.findIdx? fun w => w == x).getD 0
theorem idx_mem {l : List Str} {x : Str} (h : x ∈ l) : l.findIdx? (fun w => w == x) = some (idxS l x) ∧ idxS l x < l.length ∧ l[idxS l x]? = some x := by
  unfold idxS
  cases e : l.findIdx? (fun w => w == x) with
  | none =>
    have := List.findIdx?_eq_none_iff.mp e x h
    simp at this
  | some j =>
    obtain ⟨hj, h1, _⟩ := List.findIdx?_eq_some_iff_getElem.mp e
    have h2 : l[j] = x := by simpa using h1
    exact ⟨rfl, hj, by show l[j]? = some x; rw [List.getElem?_eq_getElem hj, h2]⟩
theorem nth_idx {l : List Str} {x : Str} (h : x ∈ l) : nth l (idxS l x) = x := by
  unfold nth
  rw [List.getD_eq_getElem?_getD, (idx_mem h).2.2]; rfl
theorem idx_nth {l : List Str} (hn : l.Nodup) {i : Nat} (hi : i < l.length) : idxS l (nth l i) = i := by
  have hm : nth l i ∈ l := by
    unfold nth
    rw [List.getD_eq_getElem?_getD, List.getElem?_eq_getElem hi]
    exact List.getElem_mem hi
  obtain ⟨_, h2, h3⟩ := idx_mem hm
  have h4 : l[i]? = some (nth l i) := by
    unfold nth
    rw [List.getD_eq_getElem?_getD, List.getElem?_eq_getElem hi]; rfl
  exact (List.getElem?_inj h2 hn).mp (h3.trans h4.symm)
def outS (es : List Edge) (x : Str) : List Nat := (es.filter fun e => e.1 == x).map fun e => idxS (nms es) e.2.2
def EF (es : List Edge) (i : Nat) : List Nat := outS es (nth (nms es) i)
theorem to_mem {es : List Edge} {e : Edge} (h : e ∈ es) : e.2.2 ∈ nms es := mem_nms.mpr ⟨e, h, .inr rfl⟩
theorem EF_inn (es : List Edge) : Inn (nms es).length (EF es) := fun i _ k hk => by
  obtain ⟨e, he, rfl⟩ := List.mem_map.mp hk
  exact (idx_mem (to_mem (List.mem_filter.mp he).1)).2.1
theorem EF_sht {es : List Edge} (h : es.length ≤ 1000) : Sht (nms es).length (EF es) := fun i _ => by
  unfold EF outS
  rw [List.length_map]
  exact Nat.le_trans (List.length_filter_le _ _) h
theorem endsL_eq (es : List Edge) : endsL (nms es).length (EF es) = .list ((nms es).map fun x => ownL (outS es x)) := by
  rw [map_nth]; rfl
theorem ixm (d : Bool) (e : Edge) : ixD (eD d e) (.int (-1)) = some (.str e.2.2) := by cases d <;> rfl
theorem nms_len3 (es : List Edge) : (nms es).length ≤ 2 * es.length := by
  have := ordS_len (ends2 es)
  rw [len_ends2] at this
  exact this
theorem idx_str {l : List Str} {x : Str} (h : x ∈ l) : idxD (.tuple (l.map PyData.str)) (.str x) = some (.d (.int ((idxS l x : Nat) : Int))) := by
  show (if kB = true then (strsD (l.map PyData.str)).bind fun ys => (ys.findIdx? fun w => w == x).map fun j => Vl.d (.int (j : Nat)) else none) = _
  rw [if_pos (show kB = true from rfl), strsD_map]
  show (l.findIdx? fun w => w == x).map (fun j => Vl.d (.int (j : Nat))) = _
  rw [(idx_mem h).1]; rfl
section
variable {gl : Nat → Option D} {cf : Cf} {W : Nat}
/-- ends_from: web names name line -/
def T_ends_from (c_standings : Nat) : Ss := (.cons (.asg (.n 1) (.call c_standings (.cons (.v 0) .nil))) (.cons (.ret (.lc [2] (.lc [3] (.idx (.v 1) (.ix (.v 3) (.neg (.int 1)))) (.n 3) (.of (.v 0)) (.yes (.cmp .eq (.ix (.v 3) (.int 0)) (.v 2)))) (.n 2) (.of (.v 1)) .no)) .nil))
theorem ends_from_ok {c : Nat} (b d : Bool) (es : List Edge) (h : es.length ≤ 1000) (st : Sto) (hs : cf c [.d (webD b d es)] st = some (.d (.tuple ((nms es).map PyData.str)), st)) :
    out (execs gl cf W (T_ends_from c) [.sh (webD b d es), .no, .no, .no] st) = some (.fr (endsL (nms es).length (EF es)), st) := by
  have hl : es.length ≤ SL := by show _ ≤ 16777216; omega
  have hn : (nms es).length ≤ SL := by have := nms_len3 es; show _ ≤ 16777216; omega
  rw [endsL_eq]
  refine o_asg (x := .tuple ((nms es).map PyData.str)) (toD_E (ev_call (eva_cons (ev_sh rfl) eva_nil) hs) rfl) rfl (o_ret ?_)
  refine lcN (xs := nms es) (a := PyData.str) (f := fun x => ownL (outS es x)) (E1 := fun x => [.sh (webD b d es), .sh (.tuple ((nms es).map PyData.str)), .sh (.str x), .no]) (evi_of (bor_sh rfl) rfl) (fun _ _ => rfl) (fun x _ => ?_) hn
  have h1 : ev gl cf (.lc [3] (.idx (.v 1) (.ix (.v 3) (.neg (.int 1)))) (.n 3) (.of (.v 0)) (.yes (.cmp .eq (.ix (.v 3) (.int 0)) (.v 2)))) [.sh (webD b d es), .sh (.tuple ((nms es).map PyData.str)), .sh (.str x), .no] st = some (.fr (.list ((es.filter fun e => e.1 == x).map fun e => .int ((idxS (nms es) e.2.2 : Nat) : Int))), st) :=
    lcY (xs := es) (a := eD d) (p := fun e => e.1 == x) (f := fun e => .int ((idxS (nms es) e.2.2 : Nat) : Int)) (E1 := fun e => [.sh (webD b d es), .sh (.tuple ((nms es).map PyData.str)), .sh (.str x), .sh (eD d e)]) (evi_of (bor_sh rfl) (walk_web _ _ _)) (fun _ _ => rfl)
      (fun e _ => evc_yes (bor_E rfl (ev_cmp (bor_E rfl (ev_ix (bor_sh rfl) (bor_E rfl ev_int rfl) (ix0 d e)) rfl) (bor_sh rfl) (eq_str _ _)) rfl) rfl)
      (fun e he _ => toD_E (ev_idx (bor_sh rfl) (bor_E rfl (ev_ix (bor_sh rfl) (bor_E rfl (ev_neg (bor_E rfl ev_int rfl)) rfl) (ixm d e)) rfl) (idx_str (to_mem he))) rfl) hl
  refine toD_E h1 ?_
  unfold ownL outS
  rw [List.map_map]; rfl
/-- l_names: mesh found own -/
def T_l_names : Ss := (.cons (.asg (.n 1) (.lst .nil)) (.cons (.for' (.n 2) (.of (.v 0)) (.cons (.asg (.n 1) (.bin .add (.v 1) (.lst (.cons (.ix (.v 2) (.int 0)) (.cons (.ix (.v 2) (.int 2)) .nil))))) .nil)) (.cons (.ret (.f1 .sset (.v 1))) .nil)))
theorem ends2_snoc (pre : List Edge) (e : Edge) : ends2 (pre ++ [e]) = ends2 pre ++ [e.1, e.2.2] := by
  unfold ends2
  rw [List.flatMap_append]; rfl
theorem names_ok (b d : Bool) (es : List Edge) (h : es.length ≤ 30) (st : Sto) : out (execs gl cf W T_l_names [.sh (webD b d es), .no, .no] st) = some (.fr (.list ((nms es).map PyData.str)), st) := by
  obtain ⟨e2, s2, hf, x, rfl, hs2⟩ := forL_ind (bd := bindT (.n 2)) (body := fun e1 s1 => execs gl cf W (.cons (.asg (.n 1) (.bin .add (.v 1) (.lst (.cons (.ix (.v 2) (.int 0)) (.cons (.ix (.v 2) (.int 2)) .nil))))) .nil) e1 s1)
    (eD d) (ys := es) (fun pre env s => ∃ x, env = [.sh (webD b d es), .sh (.list ((ends2 pre).map PyData.str)), x] ∧ s = st)
    (fun pre e post env s q ⟨x, he, hs⟩ => by
      subst he hs
      have hlen := congrArg List.length q
      rw [List.length_append, List.length_cons] at hlen
      have hb : binD .add (.list ((ends2 pre).map PyData.str)) (.list [.str e.1, .str e.2.2]) = some (.fr (.list ((ends2 (pre ++ [e])).map PyData.str))) := by
        show (if ((ends2 pre).map PyData.str).length + 2 ≤ SL then some (Vl.fr (.list ((ends2 pre).map PyData.str ++ [.str e.1, .str e.2.2]))) else none) = _
        rw [if_pos (by rw [List.length_map, len_ends2]; show _ ≤ 16777216; omega), ends2_snoc, List.map_append]; rfl
      refine ⟨[.sh (webD b d es), .sh (.list ((ends2 pre).map PyData.str)), .sh (eD d e)], [.sh (webD b d es), .sh (.list ((ends2 (pre ++ [e])).map PyData.str)), .sh (eD d e)], s, rfl, ?_, .sh (eD d e), rfl, rfl⟩
      exact exs_cons (ex_asg (x := .list ((ends2 (pre ++ [e])).map PyData.str)) (toD_E (ev_bin (bor_sh rfl) (bor_E rfl (ev_lst (evs_cons (toD_E (ev_ix (bor_sh rfl) (bor_E rfl ev_int rfl) (ix0 d e)) rfl) (evs_cons (toD_E (ev_ix (bor_sh rfl) (bor_E rfl ev_int rfl) (ix2 d e)) rfl) evs_nil)) (le2 _ _)) rfl) hb) rfl) rfl) exs_nil)
    es [] [.sh (webD b d es), .sh (.list []), .no] st rfl ⟨.no, rfl, rfl⟩
  rw [hs2] at hf
  refine o_asg (x := .list []) (s1 := st) rfl rfl ?_
  refine o_cons (ex_for (s := st) (evi_of (bor_sh rfl) (walk_web _ _ _)) hf rfl) ?_
  exact o_ret (ev_f1 (bor_sh rfl) (sset_str (by rw [len_ends2]; omega)))
/-- l_led: mesh marks_so names_so spots_so tag own -/
def T_l_led (c_l_names : Nat) : Ss := (.cons (.asg (.n 2) (.call c_l_names (.cons (.v 0) .nil))) (.cons (.asg (.n 3) (.dzip (.v 2) (.v 1))) (.cons (.ret (.lc [4] (.f1 .sum (.lc [5] (.ix (.v 3) (.ix (.v 5) (.int 2))) (.n 5) (.of (.v 0)) (.yes (.cmp .eq (.ix (.v 5) (.int 0)) (.v 4))))) (.n 4) (.of (.v 2)) .no)) .nil)))
def ledD (l : List Str) (v : Nat → Int) : List (D × D) := dOf PyData.str (l.map fun x => (x, PyData.int (v (idxS l x))))
theorem strEnc (a b : Str) : keyEq (PyData.str a) (PyData.str b) = decide (a = b) := by
  have e := keyEq_kD (.inr a) (.inr b)
  rw [show keyEq (PyData.str a) (PyData.str b) = keyEq (kD (.inr a)) (kD (.inr b)) from rfl, e]
  by_cases h : a = b
  · rw [h]; simp
  · rw [decide_eq_false h, decide_eq_false (fun z => h (by cases z; rfl))]
theorem once_strs : ∀ {l : List Str}, l.Nodup → onceD (l.map PyData.str) = true
  | [], _ => rfl
  | x :: l, h => by
    obtain ⟨h1, h2⟩ := List.nodup_cons.mp h
    show (keyD (.str x) && !((l.map PyData.str).any fun y => keyEq y (.str x)) && onceD (l.map PyData.str)) = true
    rw [once_strs h2, Bool.and_true, Bool.and_eq_true]
    refine ⟨rfl, ?_⟩
    rw [Bool.not_eq_true', List.any_map, List.any_eq_false]
    intro y hy
    show ¬ (keyEq (.str y) (.str x)) = true
    rw [strEnc]
    intro z
    have := of_decide_eq_true z
    subst this
    exact h1 hy
theorem kv_strs (l : List Str) (f : Nat → D) : kvD (l.map PyData.str) ((List.range l.length).map f) = (List.range l.length).map fun i => (.str (nth l i), f i) := by
  have h : l.map PyData.str = (List.range l.length).map fun i => .str (nth l i) := map_nth PyData.str l
  rw [h]
  generalize List.range l.length = r
  induction r with
  | nil => rfl
  | cons i r ih => exact congrArg (_ :: ·) ih
theorem look_led {l : List Str} (v : Nat → Int) : ∀ {m : List Str} {x : Str}, x ∈ m → klook x (m.map fun x => (x, PyData.int (v (idxS l x)))) = some (.int (v (idxS l x)))
  | y :: m, x, h => by
    show (if y = x then some (PyData.int (v (idxS l y))) else klook x (m.map fun x => (x, PyData.int (v (idxS l x))))) = _
    by_cases c : y = x
    · rw [if_pos c, c]
    · rw [if_neg c]
      exact look_led v ((List.mem_cons.mp h).resolve_left fun z => c z.symm)
theorem ix_led {l : List Str} (v : Nat → Int) {x : Str} (h : x ∈ l) (h0 : l ≠ []) : ixD (.dict (ledD l v)) (.str x) = some (.int (v (idxS l x))) := by
  show (dget (ledD l v) (.str x)).bind id = _
  have hd : dents (.str x) (ledD l v) = some (ledD l v) := by
    unfold ledD dOf
    cases l with
    | nil => exact absurd rfl h0
    | cons y l => rfl
  unfold dget
  rw [hd]
  show ((some (dlook (PyData.str x) (ledD l v)) : Option (Option D))).bind id = _
  unfold ledD
  rw [dlook_of strEnc, look_led v h]; rfl
theorem dzip_led (c : Bool) {l : List Str} (hn : l.Nodup) (v : Nat → Int) : dzipD (.list (l.map PyData.str)) (vec c l.length v) = some (.fr (.dict (ledD l v))) := by
  have hi : items (vec c l.length v) = some ((List.range l.length).map fun i => .int (v i)) := by cases c <;> rfl
  show (some (l.map PyData.str)).bind (fun xs => (items (vec c l.length v)).bind fun ys => if onceD xs = true then some (Vl.fr (.dict (kvD xs ys))) else none) = _
  rw [hi]
  show (if onceD (l.map PyData.str) = true then some (Vl.fr (.dict (kvD (l.map PyData.str) ((List.range l.length).map fun i => .int (v i))))) else none) = _
  rw [if_pos (once_strs hn), kv_strs]
  unfold ledD dOf
  rw [List.map_map, map_nth (((fun p : Str × D => (PyData.str p.1, p.2)) ∘ fun x => (x, PyData.int (v (idxS l x))))) l]
  congr 3
  refine List.map_congr_left fun i hi => ?_
  show (PyData.str (nth l i), PyData.int (v i)) = (PyData.str (nth l i), PyData.int (v (idxS l (nth l i))))
  rw [idx_nth hn (List.mem_range.mp hi)]
theorem led_ok {c : Nat} (b d f : Bool) (es : List Edge) (h0 : es ≠ []) (h : es.length ≤ 1000) (v : Nat → Int) (st : Sto) (hs : cf c [.d (webD b d es)] st = some (.fr (.list ((nms es).map PyData.str)), st)) :
    out (execs gl cf W (T_l_led c) [.sh (webD b d es), .sh (vec f (nms es).length v), .no, .no, .no, .no] st) = some (.fr (vec false (nms es).length fun i => led v (EF es i)), st) := by
  have hl : es.length ≤ SL := by show _ ≤ 16777216; omega
  have hn : (nms es).length ≤ SL := by have := nms_len3 es; show _ ≤ 16777216; omega
  have hne : nms es ≠ [] := by
    cases es with
    | nil => exact absurd rfl h0
    | cons e r => exact List.ne_nil_of_mem (mem_nms.mpr ⟨e, .head _, .inl rfl⟩)
  have hv : vec false (nms es).length (fun i => led v (EF es i)) = .list ((nms es).map fun x => .int (led v (outS es x))) := by
    rw [map_nth]; rfl
  rw [hv]
  refine o_asg (x := .list ((nms es).map PyData.str)) (s1 := st) (toD_E (ev_call (eva_cons (ev_sh rfl) eva_nil) hs) rfl) rfl ?_
  refine o_asg (x := .dict (ledD (nms es) v)) (s1 := st) (toD_E (ev_dzip (bor_sh rfl) (bor_sh rfl) (dzip_led f (nodup_ordS _) v)) rfl) rfl (o_ret ?_)
  refine lcN (xs := nms es) (a := PyData.str) (f := fun x => .int (led v (outS es x))) (E1 := fun x => [.sh (webD b d es), .sh (vec f (nms es).length v), .sh (.list ((nms es).map PyData.str)), .sh (.dict (ledD (nms es) v)), .sh (.str x), .no]) (evi_of (bor_sh rfl) rfl) (fun _ _ => rfl) (fun x _ => ?_) hn
  have h1 : ev gl cf (.lc [5] (.ix (.v 3) (.ix (.v 5) (.int 2))) (.n 5) (.of (.v 0)) (.yes (.cmp .eq (.ix (.v 5) (.int 0)) (.v 4)))) [.sh (webD b d es), .sh (vec f (nms es).length v), .sh (.list ((nms es).map PyData.str)), .sh (.dict (ledD (nms es) v)), .sh (.str x), .no] st = some (.fr (.list ((es.filter fun e => e.1 == x).map fun e => .int (v (idxS (nms es) e.2.2)))), st) :=
    lcY (xs := es) (a := eD d) (p := fun e => e.1 == x) (f := fun e => .int (v (idxS (nms es) e.2.2))) (E1 := fun e => [.sh (webD b d es), .sh (vec f (nms es).length v), .sh (.list ((nms es).map PyData.str)), .sh (.dict (ledD (nms es) v)), .sh (.str x), .sh (eD d e)]) (evi_of (bor_sh rfl) (walk_web _ _ _)) (fun _ _ => rfl)
      (fun e _ => evc_yes (bor_E rfl (ev_cmp (bor_E rfl (ev_ix (bor_sh rfl) (bor_E rfl ev_int rfl) (ix0 d e)) rfl) (bor_sh rfl) (eq_str _ _)) rfl) rfl)
      (fun e he _ => toD_E (ev_ix (bor_sh rfl) (bor_E rfl (ev_ix (bor_sh rfl) (bor_E rfl ev_int rfl) (ix2 d e)) rfl) (ix_led v (to_mem he) hne)) rfl) hl
  refine toD_E (w := .d _) (ev_f1 (bor_E rfl h1 rfl) (sum_ints (fun e : Edge => v (idxS (nms es) e.2.2)) _)) ?_
  unfold led outS
  rw [List.map_map]; rfl
end
end Lib

end
section
set_option Elab.async false
set_option linter.all false
set_option maxRecDepth 100000
set_option maxHeartbeats 4000000
namespace Lib
open PySem Pi
/-! ### going down one by one -/
theorem vec_set {n s : Nat} (v : Nat → Int) (x : Int) (f : Nat → Int) (hs : s < n) (h1 : f s = x) (h2 : ∀ i, i ≠ s → f i = v i) : setNth ((List.range n).map fun i => .int (v i)) (.int ((s : Nat) : Int)) (.int x) = some ((List.range n).map fun i => .int (f i)) := by
  show (L2.ixN ((List.range n).map fun i => PyData.int (v i)).length ((s : Nat) : Int)).map (fun j => ((List.range n).map fun i => PyData.int (v i)).set j (.int x)) = _
  rw [List.length_map, List.length_range, ixN_nat' hs]
  show some (((List.range n).map fun i => PyData.int (v i)).set s (.int x)) = _
  congr 1
  apply List.ext_getElem?
  intro j
  rw [List.getElem?_set, List.length_map, List.length_range]
  by_cases c : s = j
  · subst c
    rw [if_pos rfl, if_pos hs]
    simp [hs, h1]
  · rw [if_neg c]
    by_cases hj : j < n
    · simp [hj, h2 j (fun z => c z.symm)]
    · simp [hj]
theorem maxI_pos : ∀ (l : List Int) (m : Int), decide (0 < maxI m l) = (decide (0 < m) || l.any fun x => decide (0 < x))
  | [], m => (Bool.or_false _).symm
  | x :: l, m => by
    show decide (0 < maxI (if x > m then x else m) l) = _
    rw [maxI_pos l, List.any_cons, ← Bool.or_assoc]
    congr 1
    by_cases c : x > m
    · rw [if_pos c]
      by_cases h : 0 < m
      · rw [decide_eq_true h, decide_eq_true (by omega : 0 < x)]; rfl
      · rw [decide_eq_false h]; rfl
    · rw [if_neg c]
      by_cases h : 0 < m
      · rw [decide_eq_true h]; rfl
      · rw [decide_eq_false h, decide_eq_false (by omega : ¬ 0 < x)]; rfl
theorem max_vec (n : Nat) (hn : 0 < n) (v : Nat → Int) : ∃ m : Int, f1D .max (vec false n v) = some (.d (.int m)) ∧ decide (0 < m) = posB n v := by
  have h : f1D .max (vec false n v) = (some ((List.range n).map v)).bind (fun ns => match ns with | [] => none | k :: r => some (Vl.d (.int (maxI k r)))) := by
    rw [← intsD_map v]; rfl
  obtain ⟨k, rfl⟩ : ∃ k, n = k + 1 := ⟨n - 1, by omega⟩
  rw [List.range_succ_eq_map, List.map_cons] at h
  refine ⟨_, h, ?_⟩
  rw [maxI_pos, posB, List.range_succ_eq_map, List.any_cons, List.any_map, List.any_map, List.any_map]
  rfl
section
variable {gl : Nat → Option D} {cf : Cf} {W : Nat}
/-- l_down: mesh base cap_so here spot_so -/
def downB (c_l_led : Nat) : Ss := (.cons (.iteL [3] (.cmp .lt (.ix (.call c_l_led (.cons (.v 0) (.cons (.v 3) .nil))) (.v 4)) (.bin .mul (.v 1) (.ix (.v 3) (.v 4)))) (.cons (.parS [(3, some (.v 4)), (4, none)] (.cons (.bin .sub (.ix (.v 3) (.v 4)) (.int 1)) (.cons (.int 0) .nil))) .nil) (.cons (.asg (.n 4) (.bin .add (.v 4) (.int 1))) .nil)) .nil)
def T_l_down (c_l_names c_l_led : Nat) : Ss := (.cons (.own 3 (.rep (.lst (.cons (.v 2) .nil)) (.f1 .len (.call c_l_names (.cons (.v 0) .nil))))) (.cons (.asg (.n 4) (.int 0)) (.cons (.wh (.cmp .lt (.v 4) (.f1 .len (.v 3))) (downB c_l_led)) (.cons (.ret (.ite (.cmp .gt (.f1 .max (.v 3)) (.int 0)) (.f1 .tuple (.v 3)) .non)) .nil))))
abbrev dwE (x : D) (b c : Int) (n : Nat) (v : Nat → Int) (s : Nat) : Ev := [.sh x, .sh (.int b), .sh (.int c), .ow (vec false n v), .sh (.int ((s : Nat) : Int))]
abbrev dwT (gl : Nat → Option D) (cf : Cf) : Ev → Sto → Option (Bool × Sto) := fun e1 s1 => tru (bor (.cmp .lt (.v 4) (.f1 .len (.v 3))) (ev gl cf (.cmp .lt (.v 4) (.f1 .len (.v 3))) e1 s1) e1 s1)
theorem dwT_ok (x : D) (b c : Int) (n : Nat) (v : Nat → Int) (s : Nat) (st : Sto) : dwT gl cf (dwE x b c n v s) st = some (decide (s < n), st) := by
  have h := tru_E (gl := gl) (cf := cf) (a := .cmp .lt (.v 4) (.f1 .len (.v 3))) (env := dwE x b c n v s) (st := st) (s := st) (x := .bool (decide (((s : Nat) : Int) < ((n : Nat) : Int)))) (bor_E rfl (ev_cmp (bor_sh rfl) (bor_E rfl (ev_f1 (bor_ow rfl) (len_vec _ _ _)) rfl) (lt_int _ _)) rfl) rfl
  refine h.trans ?_
  congr 2
  simp
theorem dw_turn {cl : Nat} (x : D) {b : Int} (hb : Sml b) (c : Int) {n : Nat} {E : Nat → List Nat} (v : Nat → Int) {s : Nat} (hs : s < n) (st : Sto) (hst : scalS st = true)
    (hl : cf cl [.d x, .d (vec false n v)] st = some (.fr (vec false n fun i => led v (E i)), st)) :
    execs gl cf W (downB cl) (dwE x b c n v s) st = if led v (E s) < b * v s then some (.nx, dwE x b c n (downF v s) 0, st) else some (.nx, dwE x b c n v (s + 1), st) := by
  have hc : tru (bor (.cmp .lt (.ix (.call cl (.cons (.v 0) (.cons (.v 3) .nil))) (.v 4)) (.bin .mul (.v 1) (.ix (.v 3) (.v 4)))) (ev gl cf (.cmp .lt (.ix (.call cl (.cons (.v 0) (.cons (.v 3) .nil))) (.v 4)) (.bin .mul (.v 1) (.ix (.v 3) (.v 4)))) [.sh x, .sh (.int b), .sh (.int c), .sh (vec false n v), .sh (.int ((s : Nat) : Int))] st) [.sh x, .sh (.int b), .sh (.int c), .sh (vec false n v), .sh (.int ((s : Nat) : Int))] st) = some (decide (led v (E s) < b * v s), st) :=
    tru_E (bor_E rfl (ev_cmp (bor_E rfl (ev_ix (bor_E rfl (ev_call (eva_cons (ev_sh rfl) (eva_cons (ev_sh rfl) eva_nil)) hl) rfl) (bor_sh rfl) (ix_sq false (at_range (fun i => .int (led v (E i))) hs))) rfl) (bor_E rfl (ev_bin (bor_sh rfl) (bor_E rfl (ev_ix (bor_sh rfl) (bor_sh rfl) (ix_sq false (at_range (fun i => .int (v i)) hs))) rfl) (mulL hb)) rfl) (lt_int _ _)) rfl) rfl
  by_cases h : led v (E s) < b * v s
  · rw [if_pos h]
    rw [decide_eq_true h] at hc
    refine exs_cons (e1 := dwE x b c n (downF v s) 0) (s1 := st) (ex_iteL (k := true) (e1 := [.sh x, .sh (.int b), .sh (.int c), .sh (vec false n v), .sh (.int ((s : Nat) : Int))]) (s := st) rfl hc hst ?_) rfl
    show execs gl cf W _ (dwE x b c n v s) st = _
    refine exs_cons (ex_parS (xs := [.int (v s - 1), .int 0]) (s := st) (evs_cons (toD_E (ev_bin (bor_E rfl (ev_ix (bor_ow rfl) (bor_sh rfl) (ix_sq false (at_range (fun i => .int (v i)) hs))) rfl) (bor_E rfl ev_int rfl) (subI _ _)) rfl) (evs_cons (toD_E ev_int rfl) evs_nil)) ?_) rfl
    refine put_ix (kx := .int ((s : Nat) : Int)) (s1 := st) (ys := (List.range n).map fun i => .int (v i)) (bor_sh rfl) rfl (vec_set v _ (downF v s) hs (by unfold downF; rw [if_pos rfl]) fun i hi => by unfold downF; rw [if_neg hi]) ?_
    exact put_nm (by show (4 : Nat) < 5; decide) rfl
  · rw [if_neg h]
    rw [decide_eq_false h] at hc
    refine exs_cons (e1 := dwE x b c n v (s + 1)) (s1 := st) (ex_iteL (k := false) (e1 := [.sh x, .sh (.int b), .sh (.int c), .sh (vec false n v), .sh (.int ((s : Nat) : Int))]) (s := st) rfl hc hst ?_) rfl
    show execs gl cf W _ (dwE x b c n v s) st = _
    exact exs_cons (ex_asg (x := .int ((s + 1 : Nat) : Int)) (toD_E (ev_bin (bor_sh rfl) (bor_E rfl ev_int rfl) (addI _ _)) rfl) rfl) rfl
theorem dw_loop {cl : Nat} (x : D) {b : Int} (hb : Sml b) (hb0 : 0 < b) (c : Int) {n : Nat} {E : Nat → List Nat} (hE : Inn n E) (cap : Nat → Int) (st : Sto) (hst : scalS st = true) (hl : ∀ v, cf cl [.d x, .d (vec false n v)] st = some (.fr (vec false n fun i => led v (E i)), st)) :
    ∀ (N : Nat) (v : Nat → Int) (s : Nat), sumN n v * ((n : Int) + 1) + ((n : Int) - s) < (N : Int) → s ≤ n → (∀ i, i < s → b * v i ≤ led v (E i)) → Nn n v → Le n v cap → (∀ u, Le n u cap → Carr n E b u → Le n u v) →
      ∃ r, whL (dwT gl cf) (fun e1 s1 => execs gl cf W (downB cl) e1 s1) N (dwE x b c n v s) st = some (.nx, dwE x b c n r n, st) ∧ Grt n E b cap r
  | 0, v, s, h, hs, _, hv, _, _ => by
    have h1 := Int.mul_nonneg (sumN_nn hv) (by omega : (0 : Int) ≤ (n : Int) + 1)
    omega
  | N + 1, v, s, h, hs, hp, hv, hc, ht => by
    have htt := dwT_ok (gl := gl) (cf := cf) x b c n v s st
    by_cases hlt : s < n
    · rw [decide_eq_true hlt] at htt
      have hbody := dw_turn (gl := gl) (W := W) x hb c v hlt st hst (hl v)
      by_cases hd : led v (E s) < b * v s
      · rw [if_pos hd] at hbody
        have h1 := sumN_lt (down_le n v s) hlt (down_lt v s)
        have h2 : sumN n (downF v s) * ((n : Int) + 1) ≤ (sumN n v - 1) * ((n : Int) + 1) := Int.mul_le_mul_of_nonneg_right (by omega) (by omega)
        rw [Int.sub_mul, Int.one_mul] at h2
        obtain ⟨r, g1, g2⟩ := dw_loop x hb hb0 c hE cap st hst hl N (downF v s) 0 (by omega) (by omega) (fun i hi => by omega) (down_nn hE hlt hd hv) (fun i hi => Int.le_trans (down_le n v s i hi) (hc i hi)) fun u u1 u2 => down_top hE hb0 hlt hd u2 (ht u u1 u2)
        exact ⟨r, (whL_turn (body := fun e1 s1 => execs gl cf W (downB cl) e1 s1) htt hbody).trans g1, g2⟩
      · rw [if_neg hd] at hbody
        obtain ⟨r, g1, g2⟩ := dw_loop x hb hb0 c hE cap st hst hl N v (s + 1) (by omega) (by omega) (fun i hi => by
          by_cases q : i = s
          · subst q; omega
          · exact hp i (by omega)) hv hc ht
        exact ⟨r, (whL_turn (body := fun e1 s1 => execs gl cf W (downB cl) e1 s1) htt hbody).trans g1, g2⟩
    · rw [decide_eq_false hlt] at htt
      have hsn : s = n := by omega
      subst hsn
      exact ⟨v, whL_end htt, hp, hc, hv, ht⟩
theorem down_ok {cn cl : Nat} (x : D) {l : List Str} {b : Int} (hb : Sml b) (hb0 : 0 < b) {c : Int} (hc0 : 0 ≤ c) {n : Nat} (hn0 : 0 < n) (hn : n ≤ 1000) {E : Nat → List Nat} (hE : Inn n E) (st : Sto) (hst : scalS st = true) (hll : l.length = n) (hnm : cf cn [.d x] st = some (.fr (.list (l.map PyData.str)), st))
    (hl : ∀ v, cf cl [.d x, .d (vec false n v)] st = some (.fr (vec false n fun i => led v (E i)), st)) (hW : c * n * ((n : Int) + 1) + n < (W : Int)) :
    ∃ r, (∃ w, out (execs gl cf W (T_l_down cn cl) [.sh x, .sh (.int b), .sh (.int c), .no, .no] st) = some (w, st) ∧ w.toD = some (grD n r)) ∧ Grt n E b (fun _ => c) r := by
  have h0 : sumN n (fun _ => c) ≤ c * n := sumN_cap fun _ _ => Int.le_refl c
  have h1 : sumN n (fun _ => c) * ((n : Int) + 1) ≤ c * n * ((n : Int) + 1) := Int.mul_le_mul_of_nonneg_right h0 (by omega)
  obtain ⟨r, g1, g2⟩ := dw_loop (gl := gl) (cf := cf) (W := W) x hb hb0 c hE (fun _ => c) st hst hl W (fun _ => c) 0 (by omega) (by omega) (fun i hi => by omega) (fun _ _ => hc0) (fun _ _ => Int.le_refl c) fun u h _ => h
  refine ⟨r, ?_, g2⟩
  have hlen : f1D .len (.list (l.map PyData.str)) = some (.d (.int (n : Nat))) := by
    show some (Vl.d (.int ((l.map PyData.str).length : Nat))) = _
    rw [List.length_map, hll]
  have hrep : ev gl cf (.rep (.lst (.cons (.v 2) .nil)) (.f1 .len (.call cn (.cons (.v 0) .nil)))) [.sh x, .sh (.int b), .sh (.int c), .no, .no] st = some (.fr (vec false n fun _ => c), st) := by
    have h := ev_rep (gl := gl) (cf := cf) (a := .lst (.cons (.v 2) .nil)) (b := .f1 .len (.call cn (.cons (.v 0) .nil))) (env := [.sh x, .sh (.int b), .sh (.int c), .no, .no]) (st := st) (xs := [.int c]) (k := (n : Nat)) (ev_lst (evs_cons (toD_E (ev_sh rfl) rfl) evs_nil) (by decide : (1 : Nat) ≤ SL)) (bor_E rfl (ev_f1 (bor_E rfl (ev_call (eva_cons (ev_sh rfl) eva_nil) hnm) rfl) hlen) rfl) ⟨by omega, by omega, by show 1 * (n : Int).toNat ≤ 16777216; omega⟩
    rw [rep_vec] at h
    exact h
  obtain ⟨m, m1, m2⟩ := max_vec n hn0 r
  have hmx : bor (.cmp .gt (.f1 .max (.v 3)) (.int 0)) (ev gl cf (.cmp .gt (.f1 .max (.v 3)) (.int 0)) (dwE x b c n r n) st) (dwE x b c n r n) st = some (.bool (posB n r), st) := by
    rw [← m2]
    exact bor_E rfl (ev_cmp (bor_E rfl (ev_f1 (bor_ow rfl) m1) rfl) (bor_E rfl ev_int rfl) (gt_int _ _)) rfl
  have tail : ∀ w, ev gl cf (.ite (.cmp .gt (.f1 .max (.v 3)) (.int 0)) (.f1 .tuple (.v 3)) .non) (dwE x b c n r n) st = some (w, st) → out (execs gl cf W (T_l_down cn cl) [.sh x, .sh (.int b), .sh (.int c), .no, .no] st) = some (w, st) := fun w hw => by
    refine o_own (x := vec false n fun _ => c) (s1 := st) hrep rfl ?_
    refine o_asg (x := .int 0) (s1 := st) rfl rfl ?_
    exact o_cons (s := .wh (.cmp .lt (.v 4) (.f1 .len (.v 3))) (downB cl)) (e1 := dwE x b c n r n) (s1 := st) g1 (o_ret hw)
  unfold grD
  by_cases hp : posB n r = true
  · rw [if_pos hp]
    exact ⟨_, tail _ (iteT hmx (by rw [hp]; rfl) (ev_f1 (bor_ow rfl) rfl)), rfl⟩
  · rw [if_neg hp]
    exact ⟨_, tail _ (iteF hmx (by rw [Bool.not_eq_true] at hp; rw [hp]; rfl) rfl), rfl⟩
/-- l_web: box_here found lap names_so size -/
def T_l_web (c_l_take c_l_of : Nat) : Ss := (.cons (.asg (.t (.cons (.n 3) (.cons (.n 4) .nil))) (.tup (.cons (.sl (.lst (.cons (.str "a") (.cons (.str "b") (.cons (.str "c") (.cons (.str "zz") .nil))))) .no (.yes (.bin .add (.int 1) (.call c_l_take (.cons (.v 0) (.cons (.int 4) .nil)))))) (.cons (.call c_l_of (.cons (.v 0) (.cons (.lst (.cons (.lst (.cons (.str "0") (.cons (.str "1") (.cons (.str "z") .nil)))) (.cons (.lst (.cons (.str "00") (.cons (.str "01") (.cons (.str "0z") (.cons (.str "11") .nil))))) .nil))) .nil))) .nil)))) (.cons (.own 1 (.lst .nil)) (.cons (.for' (.n 2) (.rng1 (.bin .add (.int 1) (.call c_l_take (.cons (.v 0) (.cons (.int 9) .nil))))) (.cons (.app 1 (.tup (.cons (.call c_l_of (.cons (.v 0) (.cons (.v 3) .nil))) (.cons (.call c_l_of (.cons (.v 0) (.cons (.v 4) .nil))) (.cons (.call c_l_of (.cons (.v 0) (.cons (.v 3) .nil))) .nil))))) .nil)) (.cons (.ret (.f1 .tuple (.f1 .sset (.v 1)))) .nil))))
theorem web_ok {ct co : Nat} (ht : Takes cf ct) (ho : Ofs cf co) (q n : Nat) (hq : q < 2 ^ 48) (st : Sto) (hb : BoxOk q st n) :
    ∃ es st', es ≠ [] ∧ es.length ≤ 9 ∧ out (execs gl cf W (T_l_web ct co) [.rf n, .no, .no, .no, .no] st) = some (.d (webD true true es), st') ∧ BoxOk (q + 40) st' n ∧ st'.length = st.length := by
  obtain ⟨v, s1, v1, v2, v3, v4⟩ := ht q n 4 (by decide) (by decide) (by omega) st hb
  have hadd : ∀ w : Nat, binD .add (.int 1) (.int (w : Nat)) = some (.d (.int ((1 + w : Nat) : Int))) := fun w => by
    rw [addI, show ((1 + w : Nat) : Int) = 1 + (w : Nat) by omega]
  obtain ⟨tags, tg1, tg2⟩ : ∃ tags : List Str, tags ≠ [] ∧ slD (.list [.str "a", .str "b", .str "c", .str "zz"]) none (some ((1 + v : Nat) : Int)) = some (.fr (.list (tags.map PyData.str))) ∧ tags.length ≤ 4 := by
    rcases (by omega : v = 0 ∨ v = 1 ∨ v = 2 ∨ v = 3) with h | h | h | h <;> subst h
    · exact ⟨["a"], by decide, rfl, by decide⟩
    · exact ⟨["a", "b"], by decide, rfl, by decide⟩
    · exact ⟨["a", "b", "c"], by decide, rfl, by decide⟩
    · exact ⟨["a", "b", "c", "zz"], by decide, rfl, by decide⟩
  obtain ⟨tg2, tg3⟩ := tg2
  obtain ⟨sg, s2, g1, g2, g3, g4⟩ := ho false [.list [.str "0", .str "1", .str "z"], .list [.str "00", .str "01", .str "0z", .str "11"]] (by decide) (by decide) (q + 1) n (by omega) s1 v3
  have g2 : cf co [.rf n, .d (.list [.list [.str "0", .str "1", .str "z"], .list [.str "00", .str "01", .str "0z", .str "11"]])] s1 = some (.d sg, s2) := g2
  obtain ⟨signs, sg1, sg2, rfl⟩ : ∃ signs : List Str, signs ≠ [] ∧ signs.length ≤ 4 ∧ sg = .list (signs.map PyData.str) := by
    rcases List.mem_cons.mp g1 with h | h
    · exact ⟨["0", "1", "z"], by decide, by decide, h⟩
    · rcases List.mem_cons.mp h with h | h
      · exact ⟨["00", "01", "0z", "11"], by decide, by decide, h⟩
      · cases h
  obtain ⟨k, s3, k1, k2, k3, k4⟩ := ht (q + 2) n 9 (by decide) (by decide) (by omega) s2 g3
  have ofs : ∀ (l : List Str), l ≠ [] → l.length ≤ 4 → ∀ (q' : Nat) (hq' : q' < 2 ^ 60) (s : Sto), BoxOk q' s n → ∃ x s', cf co [.rf n, .d (.list (l.map PyData.str))] s = some (.d (.str x), s') ∧ BoxOk (q' + 1) s' n ∧ s'.length = s.length := fun l hl hl2 q' hq' s hs => by
    obtain ⟨x, s', x1, x2, x3, x4⟩ := ho false (l.map PyData.str) (by rw [List.length_map]; exact List.length_pos_iff.mpr hl) (by rw [List.length_map]; omega) q' n hq' s hs
    obtain ⟨y, _, rfl⟩ := List.mem_map.mp x1
    exact ⟨y, s', x2, x3, x4⟩
  let F : List Edge → Slot → Ev := fun es x => [.rf n, .ow (.list (es.map (eD true))), x, .sh (.list (tags.map PyData.str)), .sh (.list (signs.map PyData.str))]
  obtain ⟨e2, s4, hf, es, x, rfl, e3, e4, e5⟩ := forL_ind (bd := bindT (.n 2)) (body := fun e1 s1 => execs gl cf W (.cons (.app 1 (.tup (.cons (.call co (.cons (.v 0) (.cons (.v 3) .nil))) (.cons (.call co (.cons (.v 0) (.cons (.v 4) .nil))) (.cons (.call co (.cons (.v 0) (.cons (.v 3) .nil))) .nil))))) .nil) e1 s1)
    (fun i : Nat => PyData.int ((i : Nat) : Int)) (ys := List.range (1 + k)) (fun pre env s => ∃ es x, env = F es x ∧ es.length = pre.length ∧ BoxOk (q + 3 + 3 * pre.length) s n ∧ s.length = st.length)
    (fun pre i post env s e ⟨es, x, he, h1, h2, h3⟩ => by
      subst he
      have hlen := congrArg List.length e
      rw [List.length_range, List.length_append, List.length_cons] at hlen
      obtain ⟨a1, s5, p1, p2, p3⟩ := ofs tags tg1 tg3 (q + 3 + 3 * pre.length) (by omega) s h2
      obtain ⟨a2, s6, p4, p5, p6⟩ := ofs signs sg1 sg2 (q + 3 + 3 * pre.length + 1) (by omega) s5 p2
      obtain ⟨a3, s7, p7, p8, p9⟩ := ofs tags tg1 tg3 (q + 3 + 3 * pre.length + 2) (by omega) s6 p5
      refine ⟨F es (.sh (.int ((i : Nat) : Int))), F (es ++ [(a1, a2, a3)]) (.sh (.int ((i : Nat) : Int))), s7, rfl, ?_, es ++ [(a1, a2, a3)], .sh (.int ((i : Nat) : Int)), rfl, ?_, ?_, by omega⟩
      · have := ex_app (gl := gl) (cf := cf) (W := W) (i := 1) (e := .tup (.cons (.call co (.cons (.v 0) (.cons (.v 3) .nil))) (.cons (.call co (.cons (.v 0) (.cons (.v 4) .nil))) (.cons (.call co (.cons (.v 0) (.cons (.v 3) .nil))) .nil)))) (env := F es (.sh (.int ((i : Nat) : Int)))) (st := s) (s := s7) (y := eD true (a1, a2, a3)) (xs := es.map (eD true))
          (toD_E (ev_tup (evs_cons (toD_E (ev_call (eva_cons (ev_rfQ rfl) (eva_cons (ev_sh rfl) eva_nil)) p1) rfl) (evs_cons (toD_E (ev_call (eva_cons (ev_rfQ rfl) (eva_cons (ev_sh rfl) eva_nil)) p4) rfl) (evs_cons (toD_E (ev_call (eva_cons (ev_rfQ rfl) (eva_cons (ev_sh rfl) eva_nil)) p7) rfl) evs_nil))) (le3 _ _ _)) rfl) rfl (by rw [List.length_map]; show _ < 16777216; omega)
        refine exs_cons (this.trans ?_) rfl
        show some (Fl.nx, [Slot.rf n, .ow (.list (es.map (eD true) ++ [eD true (a1, a2, a3)])), .sh (.int ((i : Nat) : Int)), .sh (.list (tags.map PyData.str)), .sh (.list (signs.map PyData.str))], s7) = some (Fl.nx, [Slot.rf n, .ow (.list ((es ++ [(a1, a2, a3)]).map (eD true))), .sh (.int ((i : Nat) : Int)), .sh (.list (tags.map PyData.str)), .sh (.list (signs.map PyData.str))], s7)
        rw [List.map_append]; rfl
      · rw [List.length_append, List.length_append, h1]; rfl
      · refine p8.mono ?_
        rw [List.length_append, List.length_singleton]; omega)
    (List.range (1 + k)) [] (F [] .no) s3 rfl ⟨[], .no, rfl, rfl, k3, by omega⟩
  rw [List.length_range] at e3 e4
  have hes : es ≠ [] := fun z => by rw [z] at e3; simp at e3; omega
  obtain ⟨es', q1, q2, q3, q4⟩ := sset_edge (xs := es) hes (by omega)
  refine ⟨es', s4, q4, by omega, ?_, e4.mono (by omega), e5⟩
  refine o_asg (x := .tuple [.list (tags.map PyData.str), .list (signs.map PyData.str)]) (s1 := s2) (toD_E (ev_tup (evs_cons (toD_E (ev_sl (bor_E rfl (ev_lst (evs_cons (toD_E ev_str rfl) (evs_cons (toD_E ev_str rfl) (evs_cons (toD_E ev_str rfl) (evs_cons (toD_E ev_str rfl) evs_nil)))) (by decide : (4 : Nat) ≤ SL)) rfl) evo_no (evo_yes (bor_E rfl (ev_bin (bor_E rfl ev_int rfl) (bor_E rfl (ev_call (eva_cons (ev_rfQ rfl) (eva_cons ev_int eva_nil)) v2) rfl) (hadd v)) rfl)) tg2) rfl) (evs_cons (toD_E (ev_call (eva_cons (ev_rfQ rfl) (eva_cons (ev_lst (evs_cons (toD_E (ev_lst (evs_cons (toD_E ev_str rfl) (evs_cons (toD_E ev_str rfl) (evs_cons (toD_E ev_str rfl) evs_nil))) (by decide : (3 : Nat) ≤ SL)) rfl) (evs_cons (toD_E (ev_lst (evs_cons (toD_E ev_str rfl) (evs_cons (toD_E ev_str rfl) (evs_cons (toD_E ev_str rfl) (evs_cons (toD_E ev_str rfl) evs_nil)))) (by decide : (4 : Nat) ≤ SL)) rfl) evs_nil)) (le2 _ _)) eva_nil)) g2) rfl) evs_nil)) (le2 _ _)) rfl) rfl ?_
  refine o_own (x := .list []) (s1 := s2) rfl rfl ?_
  refine o_cons (ex_for (s := s3) (evi_rng1 (n := 1 + k) (bor_E rfl (ev_bin (bor_E rfl ev_int rfl) (bor_E rfl (ev_call (eva_cons (ev_rfQ rfl) (eva_cons ev_int eva_nil)) k2) rfl) (hadd k)) rfl) (by show _ ≤ 16777216; omega)) hf rfl) ?_
  exact o_ret (ev_f1 (bor_E rfl (ev_f1 (bor_ow rfl) q1) rfl) rfl)
end
end Lib

end
section
set_option Elab.async false
set_option linter.all false
set_option maxRecDepth 100000
set_option maxHeartbeats 4000000
namespace Lib
open PySem Pi
/-! ### things that are no vectors; joined vectors -/
/-- an int that is no bool and not below 0 -/
def cntB : D → Bool
  | .int i => decide (0 ≤ i)
  | _ => false
def isIN : D → Bool
  | .int _ => true
  | .none => true
  | _ => false
/-- are the things counts -/
def tupB (m : Nat) (xs : List D) : Bool := decide (xs.length = m) && xs.all cntB
theorem ne_nat (i j : Nat) : cmpD .ne (.int (i : Nat)) (.int (j : Nat)) = some (!decide (i = j)) := by
  show (if okD (.int (i : Nat)) && okD (.int (j : Nat)) then some (!PyData.eqv (.int (i : Nat)) (.int (j : Nat))) else none) = _
  rw [ok_int, ok_int, if_pos (show (true && true) = true from rfl), PyData.eqv]
  congr 2
  by_cases h : i = j
  · subst h; simp
  · rw [decide_eq_false h]
    simp; omega
section
variable {gl : Nat → Option D} {cf : Cf} {W : Nat}
theorem is_number_none (st : Sto) : out (execs gl cf W T_is_number [.sh .none] st) = some (.d (.bool false), st) := rfl
theorem is_count_none {c : Nat} (st : Sto) (hc : cf c [.d .none] st = some (.d (.bool false), st)) : out (execs gl cf W (T_is_count c) [.sh .none] st) = some (.d (.bool false), st) :=
  o_ret (ev_andF (toD_E (ev_call (eva_cons (ev_sh rfl) eva_nil) hc) rfl) rfl)
/-- a thing that is no tuple -/
theorem counts_not {c : Nat} (x : D) (m : Nat) (hd : noDict x = true) (hx : isTy x .tuple = false) (st : Sto) : out (execs gl cf W (T_are_counts c) [.sh x, .sh (.int (m : Nat)), .no] st) = some (.d (.bool false), st) := by
  have h1 : ev gl cf (.not (.isi (.v 0) [.tuple])) [.sh x, .sh (.int (m : Nat)), .no] st = some (.d (.bool true), st) := by
    have := ev_not (gl := gl) (cf := cf) (a := .isi (.v 0) [.tuple]) (env := [.sh x, .sh (.int (m : Nat)), .no]) (st := st) (s := st) (x := .bool false) (k := false) (bor_E rfl (ev_isi (bor_sh rfl) hd) (by show some (PyData.bool ([Ty.tuple].any (isTy x))) = _; rw [List.any_cons, hx]; rfl)) rfl
    exact this
  exact o_iteT (s := st) (tru_E (x := .bool true) (bor_E rfl (ev_or1 h1 rfl rfl) rfl) rfl) (o_ret ev_bl)
/-- a tuple of ints and Nones, not all of them counts, or of another length -/
theorem counts_bad {c : Nat} (xs : List D) (m : Nat) (hxs : ∀ d ∈ xs, isIN d = true) (hb : tupB m xs = false) (hl : xs.length ≤ 1000) (st : Sto) (hc : ∀ d, isIN d = true → cf c [.d d] st = some (.d (.bool (cntB d)), st)) :
    out (execs gl cf W (T_are_counts c) [.sh (.tuple xs), .sh (.int (m : Nat)), .no] st) = some (.d (.bool false), st) := by
  have h0 : ev gl cf (.not (.isi (.v 0) [.tuple])) [.sh (.tuple xs), .sh (.int (m : Nat)), .no] st = some (.d (.bool false), st) := rfl
  have hn : ev gl cf (.cmp .ne (.f1 .len (.v 0)) (.v 1)) [.sh (.tuple xs), .sh (.int (m : Nat)), .no] st = some (.d (.bool (!decide (xs.length = m))), st) := ev_cmp (bor_E rfl (ev_f1 (bor_sh rfl) rfl) rfl) (bor_sh rfl) (ne_nat _ _)
  have h1 : ev gl cf (.lc [2] (.call c (.cons (.v 2) .nil)) (.n 2) (.of (.v 0)) .no) [.sh (.tuple xs), .sh (.int (m : Nat)), .no] st = some (.fr (.list (xs.map fun d => .bool (cntB d))), st) := by
    have := lcN (gl := gl) (cf := cf) (vs := [2]) (e := .call c (.cons (.v 2) .nil)) (t := .n 2) (it := .of (.v 0)) (env := [.sh (.tuple xs), .sh (.int (m : Nat)), .no]) (st := st) (xs := xs) (a := fun d => d) (f := fun d => .bool (cntB d)) (E1 := fun d => [.sh (.tuple xs), .sh (.int (m : Nat)), .sh d])
      (evi_of (bor_sh rfl) (by show some xs = _; rw [List.map_id'])) (fun _ _ => rfl) (fun d hd => toD_E (ev_call (eva_cons (ev_sh rfl) eva_nil) (hc d (hxs d hd))) rfl) (Nat.le_trans hl (by decide))
    exact this
  have hcond : ev gl cf (.or (.not (.isi (.v 0) [.tuple])) (.or (.cmp .ne (.f1 .len (.v 0)) (.v 1)) (.not (.f1 .all (.lc [2] (.call c (.cons (.v 2) .nil)) (.n 2) (.of (.v 0)) .no))))) [.sh (.tuple xs), .sh (.int (m : Nat)), .no] st = some (.d (.bool true), st) := by
    refine ev_or2 h0 rfl rfl ?_
    unfold tupB at hb
    by_cases hm : xs.length = m
    · rw [decide_eq_true hm, Bool.true_and] at hb
      rw [decide_eq_true hm] at hn
      refine ev_or2 hn rfl rfl ?_
      have h3 := all_bools cntB xs
      rw [hb] at h3
      exact ev_not (k := false) (x := .bool false) (bor_E rfl (ev_f1 (bor_E rfl h1 rfl) h3) rfl) rfl
    · rw [decide_eq_false hm] at hn
      exact ev_or1 hn rfl rfl
  exact o_iteT (s := st) (tru_E (x := .bool true) (bor_E rfl hcond rfl) rfl) (o_ret ev_bl)
/-- what is no row of counts is no vector -/
theorem is_vector_not {ce ca cc : Nat} (x y : D) {n : Nat} {E : Nat → List Nat} {b : Int} (st : Sto) (he : cf ce [.d x] st = some (.fr (endsL n E), st)) (ha : cf ca [.d y, .d (.int (n : Nat))] st = some (.d (.bool false), st)) :
    out (execs gl cf W (T_is_vector ce ca cc) [.sh x, .sh (.int b), .sh y, .no] st) = some (.d (.bool false), st) := by
  have hl : f1D .len (endsL n E) = some (.d (.int (n : Nat))) := by
    show some (Vl.d (.int (((List.range n).map fun i => ownL (E i)).length : Nat))) = _
    rw [List.length_map, List.length_range]
  refine o_asg (x := endsL n E) (toD_E (ev_call (eva_cons (ev_sh rfl) eva_nil) he) rfl) rfl (o_ret ?_)
  exact ev_andF (toD_E (ev_call (eva_cons (ev_sh rfl) (eva_cons (ev_f1 (bor_sh rfl) hl) eva_nil)) ha) rfl) rfl
/-- joined_vector: one other near far -/
def T_joined_vector (c_tupled : Nat) : Ss := (.cons (.ret (.f1 .tuple (.lc [2, 3] (.f2 .max (.v 2) (.v 3)) (.t (.cons (.n 2) (.cons (.n 3) .nil))) (.zip (.call c_tupled (.cons (.v 0) .nil)) (.call c_tupled (.cons (.v 1) .nil))) .no))) .nil)
theorem max_int (i j : Int) : f2D .max (.int i) (.int j) = some (.d (.int (max i j))) := by
  show some (Vl.d (.int (if j > i then j else i))) = _
  congr 3
  split <;> omega
theorem joined_ok {c : Nat} {n : Nat} (hn : n ≤ 1000) (u v : Nat → Int) (st : Sto) (hc : ∀ w : Nat → Int, cf c [.d (vec true n w)] st = some (.d (vec true n w), st)) :
    out (execs gl cf W (T_joined_vector c) [.sh (vec true n u), .sh (vec true n v), .no, .no] st) = some (.d (vec true n fun i => max (u i) (v i)), st) := by
  refine o_ret (ev_f1 (bor_E rfl (lcN (xs := List.range n) (a := fun i => .tuple [.int (u i), .int (v i)]) (f := fun i => .int (max (u i) (v i))) (E1 := fun i => [.sh (vec true n u), .sh (vec true n v), .sh (.int (u i)), .sh (.int (v i))])
    (evi_zip (bor_E rfl (ev_call (eva_cons (ev_sh rfl) eva_nil) (hc u)) rfl) (bor_E rfl (ev_call (eva_cons (ev_sh rfl) eva_nil) (hc v)) rfl) ?_) (fun _ _ => rfl) (fun i _ => toD_E (ev_f2 (bor_sh rfl) (bor_sh rfl) (max_int _ _)) rfl) (range_SL hn)) rfl) rfl)
  refine (zip_sq2 true true _ _).trans ?_
  rw [zipD_map]
end
/-! ### what is carried, joined or added, is carried -/
theorem led_add (u v : Nat → Int) : ∀ own : List Nat, led (fun i => u i + v i) own = led u own + led v own
  | [] => rfl
  | k :: own => by
    show (u k + v k) + led (fun i => u i + v i) own = (u k + led u own) + (v k + led v own)
    rw [led_add u v own]; omega
theorem Carr.add {n : Nat} {E : Nat → List Nat} {b : Int} {u v : Nat → Int} (h : Carr n E b u) (h' : Carr n E b v) : Carr n E b fun i => u i + v i := fun i hi => by
  rw [led_add, Int.mul_add]
  have h1 := h i hi
  have h2 := h' i hi
  omega
theorem Carr.max {n : Nat} {E : Nat → List Nat} (hE : Inn n E) {b : Int} (hb : 0 ≤ b) {u v : Nat → Int} (h : Carr n E b u) (h' : Carr n E b v) : Carr n E b fun i => max (u i) (v i) := fun i hi => by
  have h1 : led u (E i) ≤ led (fun i => Max.max (u i) (v i)) (E i) := led_mono (n := n) (fun j _ => by show u j ≤ Max.max (u j) (v j); omega) (hE i hi)
  have h2 : led v (E i) ≤ led (fun i => Max.max (u i) (v i)) (E i) := led_mono (n := n) (fun j _ => by show v j ≤ Max.max (u j) (v j); omega) (hE i hi)
  have h3 := h i hi
  have h4 := h' i hi
  show b * Max.max (u i) (v i) ≤ _
  by_cases c : v i ≤ u i
  · rw [Int.max_eq_left c]; omega
  · rw [Int.max_eq_right (by omega)]; omega
end Lib

end
section
set_option Elab.async false
set_option linter.all false
set_option maxRecDepth 100000
set_option maxHeartbeats 4000000
namespace Lib
open PySem Pi
/-! ### small things that many laws use -/
theorem argV_of {w : Vl} {x : D} (h : w.toD = some x) : argV w = .d x := by
  cases w with
  | d y => cases h; rfl
  | fr y => cases h; rfl
  | rf n => cases h
theorem ints_fun (l : List Int) : l.map PyData.int = (List.range l.length).map fun i => .int (l.getD i 0) := by
  apply List.ext_getElem?
  intro j
  by_cases hj : j < l.length
  · simp [hj]
  · simp [hj]
theorem ints_of : ∀ {ys : List D} {c : Nat}, (∀ y ∈ ys, ∃ m : Nat, m ≤ c ∧ y = .int (m : Nat)) → ∃ l : List Int, ys = l.map PyData.int ∧ ∀ x ∈ l, 0 ≤ x ∧ x ≤ (c : Int)
  | [], _, _ => ⟨[], rfl, fun _ h => (by cases h)⟩
  | y :: ys, c, h => by
    obtain ⟨m, h1, rfl⟩ := h y List.mem_cons_self
    obtain ⟨l, rfl, hl⟩ := ints_of fun z hz => h z (List.mem_cons_of_mem _ hz)
    exact ⟨(m : Int) :: l, rfl, fun x hx => by
      rcases List.mem_cons.mp hx with rfl | hx
      · omega
      · exact hl x hx⟩
theorem getD_bd {l : List Int} {c : Int} (h : ∀ x ∈ l, 0 ≤ x ∧ x ≤ c) {i : Nat} (hi : i < l.length) : 0 ≤ l.getD i 0 ∧ l.getD i 0 ≤ c := by
  rw [List.getD_eq_getElem?_getD, List.getElem?_eq_getElem hi]
  exact h _ (List.getElem_mem hi)
theorem enumD_map {α : Type} (g : α → D) : ∀ (l : List α) (k : Nat), enumD k (l.map g) = (l.zipIdx k).map fun p => .tuple [.int (p.2 : Nat), g p.1]
  | [], _ => rfl
  | x :: l, k => by
    rw [List.map_cons, List.zipIdx_cons, List.map_cons]
    show PyData.tuple [.int (k : Nat), g x] :: enumD (k + 1) (l.map g) = _
    rw [enumD_map g l (k + 1)]
theorem enumD_range (g : Nat → D) (n : Nat) : enumD 0 ((List.range n).map g) = (List.range n).map fun i => .tuple [.int (i : Nat), g i] := by
  rw [enumD_map]
  apply List.ext_getElem?
  intro j
  by_cases hj : j < n
  · simp [hj]
  · simp [hj]
theorem cutD_drop (xs : List D) (k : Nat) : cutD xs (some (k : Int)) none = xs.drop k := by
  unfold cutD
  rw [HT.sIx_nat, HT.sIx_none]
  by_cases h : k ≤ xs.length
  · rw [Nat.min_eq_left h, List.take_of_length_le (by rw [List.length_drop]; exact Nat.le_refl _)]
  · rw [Nat.min_eq_right (by omega), List.drop_of_length_le (Nat.le_refl _), List.drop_of_length_le (by omega), List.take_nil]
theorem cutD_take (xs : List D) (k : Nat) : cutD xs none (some (k : Int)) = xs.take k := by
  unfold cutD
  rw [HT.sIx_nat, HT.sIx_none, List.drop_zero, Nat.sub_zero, ← List.take_eq_take_min]
theorem max_tup (n : Nat) (hn : 0 < n) (v : Nat → Int) : ∃ m : Int, f1D .max (vec true n v) = some (.d (.int m)) ∧ decide (0 < m) = posB n v := max_vec n hn v
theorem ok_ints (l : List Int) : okD (.list (l.map PyData.int)) = true := by
  unfold okD
  show (PyData.plain (.list _) && decide (PyData.depth (.list _) ≤ 60)) = true
  rw [PyData.plain, plainAll_ints, PyData.depth, depthAll_ints]; rfl
theorem eq_nil (l : List Int) : cmpD .eq (.list (l.map PyData.int)) (.list []) = some l.isEmpty := by
  have h0 : okD (.list []) = true := ok_ints []
  show (if okD (.list (l.map PyData.int)) && okD (.list []) then some (PyData.eqv (.list (l.map PyData.int)) (.list [])) else none) = _
  rw [ok_ints, h0, if_pos (show (true && true) = true from rfl)]
  cases l with
  | nil => rw [PyData.eqv]; simp [PyData.eqvAll]
  | cons x l => rw [PyData.eqv, List.map_cons]; simp [PyData.eqvAll]
theorem carr_low {n : Nat} {E : Nat → List Nat} {b : Int} {v : Nat → Int} : (((List.range n).filter fun i => decide (led v (E i) < b * v i)).map fun i => ((i : Nat) : Int)).isEmpty = carrB n E b v := by
  rw [Bool.eq_iff_iff, carrB_iff, List.isEmpty_iff, List.map_eq_nil_iff, List.filter_eq_nil_iff]
  exact ⟨fun h i hi => by
    have := h i (List.mem_range.mpr hi)
    rw [decide_eq_true_iff] at this; omega, fun h i hi h2 => by
    have := h i (List.mem_range.mp hi)
    have := of_decide_eq_true h2; omega⟩
section
variable {gl : Nat → Option D} {cf : Cf}
theorem bor_lk {i : Nat} {env : Ev} {st : Sto} {x : D} (h : look env i = .lk x) : bor (.v i) (ev gl cf (.v i) env st) env st = some (x, st) := by
  show (match look env i with | .sh x => some (x, st) | .ow x => some (x, st) | .lk x => some (x, st) | _ => none) = _
  rw [h]
end
theorem add_tup (xs ys : List D) (h : xs.length + ys.length ≤ SL) : binD .add (.tuple xs) (.tuple ys) = some (.d (.tuple (xs ++ ys))) := if_pos h
theorem tupD_vec (b : Bool) (n : Nat) (v : Nat → Int) : tupD (vec b n v) = vec true n v := by
  have : ∀ xs : List D, tupD (sq b xs) = .tuple (xs.map tupD) := fun xs => by
    cases b <;> exact congrArg PyData.tuple (tupDs_map xs)
  show tupD (sq b ((List.range n).map fun i => PyData.int (v i))) = _
  rw [this, List.map_map]; rfl
end Lib

end
section
set_option Elab.async false
set_option linter.all false
set_option maxRecDepth 100000
set_option maxHeartbeats 4000000
namespace Law
open PySem Pi Lib
abbrev go (k i : Nat) (ws : List Vl) (st : Sto) : Option (Vl × Sto) := run gld fns 100000 k i ws st
theorem s_set_of (k : Nat) {l : List Str} (h : l.length < 64) (st : Sto) : go (k + 1) 2 [.d (.list (l.map PyData.str))] st = some (.d (.tuple ((ordS l).map PyData.str)), st) :=
  (show out (execs gld (run gld fns 100000 k) 100000 b2 [.sh (.list (l.map PyData.str))] st) = _ from set_of_ok h st)
theorem s_standings (k : Nat) (b d : Bool) (es : List Edge) (h : es.length ≤ 30) (st : Sto) : go (k + 2) 4 [.d (webD b d es)] st = some (.d (.tuple ((nms es).map PyData.str)), st) :=
  (show out (execs gld (run gld fns 100000 (k + 1)) 100000 b4 [.sh (webD b d es), .no, .no] st) = _ from standings_ok b d es st h fun l hl => s_set_of k hl st)
theorem s_ends (k : Nat) (b d : Bool) (es : List Edge) (h : es.length ≤ 30) (st : Sto) : go (k + 3) 5 [.d (webD b d es)] st = some (.fr (endsL (nms es).length (EF es)), st) :=
  (show out (execs gld (run gld fns 100000 (k + 2)) 100000 b5 [.sh (webD b d es), .no, .no, .no] st) = _ from ends_from_ok b d es (by omega) st (s_standings k b d es h st))
theorem s_is_number (k : Nat) (i : Int) (st : Sto) : go (k + 1) 0 [.d (.int i)] st = some (.d (.bool true), st) :=
  (show out (execs gld (run gld fns 100000 k) 100000 b0 [.sh (.int i)] st) = _ from is_number_ok i st)
theorem s_is_count (k : Nat) (i : Int) (st : Sto) : go (k + 2) 1 [.d (.int i)] st = some (.d (.bool (decide (0 ≤ i))), st) :=
  (show out (execs gld (run gld fns 100000 (k + 1)) 100000 b1 [.sh (.int i)] st) = _ from is_count_ok i st (s_is_number k i st))
theorem s_is_vector (k : Nat) (b d : Bool) (es : List Edge) (h : es.length ≤ 30) {m : Int} (hm : Sml m) {v : Nat → Int} (hv : Nn (nms es).length v) (st : Sto) :
    go (k + 4) 8 [.d (webD b d es), .d (.int m), .d (vec true (nms es).length v)] st = some (.d (.bool (posB (nms es).length v && carrB (nms es).length (EF es) m v)), st) :=
  have hn : (nms es).length ≤ 1000 := by have := nms_len3 es; omega
  (show out (execs gld (run gld fns 100000 (k + 3)) 100000 b8 [.sh (webD b d es), .sh (.int m), .sh (vec true (nms es).length v), .no] st) = _ from
    is_vector_ok (webD b d es) st (s_ends k b d es h st)
      (show out (execs gld (run gld fns 100000 (k + 2)) 100000 b7 [.sh (vec true (nms es).length v), .sh (.int ((nms es).length : Nat)), .no] st) = _ from are_counts_ok hn hv st fun i => s_is_count k i st)
      (show out (execs gld (run gld fns 100000 (k + 2)) 100000 b6 [.sh (endsL (nms es).length (EF es)), .sh (.int m), .sh (vec true (nms es).length v), .no, .no, .no] st) = _ from is_carried_ok true hn (EF_inn es) (EF_sht (by omega)) hm v st))
/-! the law's own -/
theorem s_take (k : Nat) : Takes (run gld fns 100000 (k + 1)) 13 := fun q n s hs hs2 hq st hb =>
  (show ∃ v st', v < s ∧ out (execs gld (run gld fns 100000 k) 100000 b13 [.rf n, .sh (.int (s : Nat)), .no, .no, .no, .no] st) = some (.d (.int (v : Nat)), st') ∧ BoxOk (q + 1) st' n ∧ st'.length = st.length from take_ok q n s hs hs2 hq st hb)
theorem s_of (k : Nat) : Ofs (run gld fns 100000 (k + 2)) 15 := fun b xs h0 hl q n hq st hb =>
  (show ∃ x st', x ∈ xs ∧ out (execs gld (run gld fns 100000 (k + 1)) 100000 b15 [.rf n, .sh (sq b xs)] st) = some (.d x, st') ∧ BoxOk (q + 1) st' n ∧ st'.length = st.length from of_ok (s_take k) b xs h0 hl q n hq st hb)
theorem s_web (k q n : Nat) (hq : q < 2 ^ 48) (st : Sto) (hb : BoxOk q st n) : ∃ es st', es ≠ [] ∧ es.length ≤ 9 ∧ go (k + 3) 18 [.rf n] st = some (.d (webD true true es), st') ∧ BoxOk (q + 40) st' n ∧ st'.length = st.length :=
  (show ∃ es st', es ≠ [] ∧ es.length ≤ 9 ∧ out (execs gld (run gld fns 100000 (k + 2)) 100000 b18 [.rf n, .no, .no, .no, .no] st) = some (.d (webD true true es), st') ∧ BoxOk (q + 40) st' n ∧ st'.length = st.length from
    web_ok (s_take (k + 1)) (s_of k) q n hq st hb)
theorem s_names (k : Nat) (es : List Edge) (h : es.length ≤ 30) (st : Sto) : go (k + 1) 19 [.d (webD true true es)] st = some (.fr (.list ((nms es).map PyData.str)), st) :=
  (show out (execs gld (run gld fns 100000 k) 100000 b19 [.sh (webD true true es), .no, .no] st) = _ from names_ok true true es h st)
theorem s_led (k : Nat) (es : List Edge) (h0 : es ≠ []) (h : es.length ≤ 30) (v : Nat → Int) (st : Sto) : go (k + 2) 20 [.d (webD true true es), .d (vec false (nms es).length v)] st = some (.fr (vec false (nms es).length fun i => led v (EF es i)), st) :=
  (show out (execs gld (run gld fns 100000 (k + 1)) 100000 b20 [.sh (webD true true es), .sh (vec false (nms es).length v), .no, .no, .no, .no] st) = _ from led_ok true true false es h0 (by omega) v st (s_names k es h st))
theorem pos_nms {es : List Edge} (h : es ≠ []) : 0 < (nms es).length := by
  obtain ⟨e, r, rfl⟩ := List.exists_cons_of_ne_nil h
  exact List.length_pos_of_mem (mem_nms.mpr ⟨e, List.mem_cons_self, .inl rfl⟩)
theorem fine_vec (b : Bool) (n : Nat) (hn : n ≤ 1000) (v : Nat → Int) : fine 2 (vec b n v) = true := by
  have : ((List.range n).map fun i => PyData.int (v i)).all (fine 1) = true := List.all_eq_true.mpr fun x hx => by
    obtain ⟨i, _, rfl⟩ := List.mem_map.mp hx
    rfl
  have hl : ((List.range n).map fun i => PyData.int (v i)).length ≤ SL := by rw [List.length_map, List.length_range]; show _ ≤ 16777216; omega
  cases b
  · show (decide (((List.range n).map fun i => PyData.int (v i)).length ≤ SL) && _) = true
    rw [decide_eq_true hl, Bool.true_and]; exact this
  · show (decide (((List.range n).map fun i => PyData.int (v i)).length ≤ SL) && _) = true
    rw [decide_eq_true hl, Bool.true_and]; exact this
theorem fine_web (es : List Edge) (h : es.length ≤ 30) : fine 3 (webD true true es) = true := by
  have : (es.map (eD true)).all (fine 2) = true := List.all_eq_true.mpr fun x hx => by
    obtain ⟨e, _, rfl⟩ := List.mem_map.mp hx
    rfl
  show (decide ((es.map (eD true)).length ≤ SL) && (es.map (eD true)).all (fine 2)) = true
  rw [this, List.length_map, decide_eq_true (show es.length ≤ SL by show _ ≤ 16777216; omega)]; rfl
theorem lstD_web (es : List Edge) : lstD (webD true true es) = webD false false es := by
  show PyData.list (lstDs (es.map (eD true))) = .list (es.map (eD false))
  rw [lstDs_map, List.map_map]; rfl
theorem s_lists (k : Nat) (es : List Edge) (h : es.length ≤ 30) (st : Sto) : ∃ w, go (k + 3) 17 [.d (webD true true es)] st = some (w, st) ∧ w.toD = some (webD false false es) := by
  rw [← lstD_web]
  exact lists_run (P := fns) (f := 17) rfl (k + 3) _ st (fine_le (by omega) (fine_web es h))
theorem s_same (k : Nat) (x : D) (h : fine k x = true) (st : Sto) : go k 16 [.d x, .d x] st = some (.d (.bool true), st) := same2_refl (P := fns) (f := 16) rfl k x st h
theorem s_tupled (k n : Nat) (hn : n ≤ 1000) (v : Nat → Int) (st : Sto) : go (k + 2) 3 [.d (vec true n v)] st = some (.d (vec true n v), st) := by
  have h := tupled_run (gl := gld) (W := 100000) (P := fns) (f := 3) rfl (k + 2) (vec true n v) st (fine_le (by omega) (fine_vec true n hn v))
  rw [tupD_vec] at h
  exact h
theorem s_joined (k n : Nat) (hn : n ≤ 1000) (u v : Nat → Int) (st : Sto) : go (k + 3) 9 [.d (vec true n u), .d (vec true n v)] st = some (.d (vec true n fun i => max (u i) (v i)), st) :=
  (show out (execs gld (run gld fns 100000 (k + 2)) 100000 b9 [.sh (vec true n u), .sh (vec true n v), .no, .no] st) = _ from joined_ok hn u v st fun w => s_tupled k n hn w st)
theorem s_is_number_none (k : Nat) (st : Sto) : go (k + 1) 0 [.d .none] st = some (.d (.bool false), st) :=
  (show out (execs gld (run gld fns 100000 k) 100000 b0 [.sh .none] st) = _ from is_number_none st)
theorem s_is_count_IN (k : Nat) (d : D) (h : isIN d = true) (st : Sto) : go (k + 2) 1 [.d d] st = some (.d (.bool (cntB d)), st) := by
  cases d with
  | int i => exact s_is_count k i st
  | none => exact (show out (execs gld (run gld fns 100000 (k + 1)) 100000 b1 [.sh .none] st) = _ from is_count_none st (s_is_number_none k st))
  | bool _ => cases h
  | str _ => cases h
  | list _ => cases h
  | tuple _ => cases h
  | dict _ => cases h
theorem s_vec_not (k : Nat) (b d : Bool) (es : List Edge) (h : es.length ≤ 30) (m : Int) (y : D) (hd : noDict y = true) (hx : isTy y .tuple = false) (st : Sto) : go (k + 4) 8 [.d (webD b d es), .d (.int m), .d y] st = some (.d (.bool false), st) :=
  (show out (execs gld (run gld fns 100000 (k + 3)) 100000 b8 [.sh (webD b d es), .sh (.int m), .sh y, .no] st) = _ from
    is_vector_not (webD b d es) y st (s_ends k b d es h st)
      (show out (execs gld (run gld fns 100000 (k + 2)) 100000 b7 [.sh y, .sh (.int ((nms es).length : Nat)), .no] st) = _ from counts_not y _ hd hx st))
theorem s_vec_bad (k : Nat) (b d : Bool) (es : List Edge) (h : es.length ≤ 30) (m : Int) (xs : List D) (hxs : ∀ d ∈ xs, isIN d = true) (hb : tupB (nms es).length xs = false) (hl : xs.length ≤ 1000) (st : Sto) : go (k + 4) 8 [.d (webD b d es), .d (.int m), .d (.tuple xs)] st = some (.d (.bool false), st) :=
  (show out (execs gld (run gld fns 100000 (k + 3)) 100000 b8 [.sh (webD b d es), .sh (.int m), .sh (.tuple xs), .no] st) = _ from
    is_vector_not (webD b d es) (.tuple xs) st (s_ends k b d es h st)
      (show out (execs gld (run gld fns 100000 (k + 2)) 100000 b7 [.sh (.tuple xs), .sh (.int ((nms es).length : Nat)), .no] st) = _ from counts_bad xs _ hxs hb hl st fun d hd => s_is_count_IN k d hd st))
end Law

end
section
set_option Elab.async false
set_option linter.all false
set_option maxRecDepth 100000
set_option maxHeartbeats 4000000
namespace Law
open PySem Pi Lib
def lapB : Ss := (.cons (.asg (.n 4) (.f1 .tuple (.lc [13] (.call 15 (.cons (.v 0) (.cons (.lst (.cons (.int 0) (.cons (.int 1) (.cons (.int 1) (.cons (.int 2) (.cons (.int 3) (.cons (.int 5) .nil))))))) .nil))) (.n 13) (.of (.call 19 (.cons (.v 5) .nil))) .no))) (.cons (.asg (.n 7) (.lc [14, 15] (.v 14) (.t (.cons (.n 14) (.cons (.n 15) .nil))) (.enm (.call 20 (.cons (.v 5) (.cons (.v 4) .nil)))) (.yes (.cmp .lt (.v 15) (.bin .mul (.v 6) (.ix (.v 4) (.v 14))))))) (.cons (.asg (.n 8) (.and (.cmp .gt (.f1 .max (.v 4)) (.int 0)) (.cmp .eq (.v 7) (.lst .nil)))) (.cons (.asg (.n 9) (.lst (.cons (.v 4) (.cons (.f1 .list (.v 4)) (.cons (.sl (.v 4) (.yes (.int 1)) .no) (.cons (.bin .add (.v 4) (.tup (.cons (.int 0) .nil))) (.cons (.bin .add (.tup (.cons .non .nil)) (.sl (.v 4) (.yes (.int 1)) .no)) (.cons (.bin .add (.tup (.cons (.neg (.int 1)) .nil)) (.sl (.v 4) (.yes (.int 1)) .no)) (.cons .non .nil))))))))) (.cons (.asg (.n 10) (.lc [12] (.call 8 (.cons (.v 5) (.cons (.v 6) (.cons (.v 12) .nil)))) (.n 12) (.of (.v 9)) .no)) (.cons (.ite (.not (.call 16 (.cons (.bin .add (.v 10) (.lst (.cons (.callk 8 .nil (.cons (.v 4) (.cons (.v 6) (.cons (.call 17 (.cons (.v 5) .nil)) .nil))) [2, 1, 0]) .nil))) (.cons (.bin .add (.bin .add (.lst (.cons (.v 8) .nil)) (.rep (.lst (.cons (.bl false) .nil)) (.int 6))) (.lst (.cons (.v 8) .nil))) .nil)))) (.cons (.ret (.bl false)) .nil) .nil) (.cons (.ite (.v 8) (.cons (.app 2 (.v 4)) .nil) .nil) .nil)))))))
def joinB : Ss := (.cons (.asg (.n 11) (.call 9 (.cons (.ix (.v 2) (.int 0)) (.cons (.v 4) .nil)))) (.cons (.ite (.not (.call 16 (.cons (.v 11) (.cons (.f1 .tuple (.lc [9, 16] (.f2 .max (.v 9) (.v 16)) (.t (.cons (.n 9) (.cons (.n 16) .nil))) (.zip (.ix (.v 2) (.int 0)) (.v 4)) .no)) .nil)))) (.cons (.ret (.bl false)) .nil) .nil) (.cons (.ite (.or (.not (.call 8 (.cons (.v 5) (.cons (.v 6) (.cons (.v 11) .nil))))) (.not (.call 8 (.cons (.v 5) (.cons (.v 6) (.cons (.f1 .tuple (.lc [9, 16] (.bin .add (.v 9) (.v 16)) (.t (.cons (.n 9) (.cons (.n 16) .nil))) (.zip (.ix (.v 2) (.int 0)) (.v 4)) .no)) .nil)))))) (.cons (.ret (.bl false)) .nil) .nil) .nil)))
def turnB : Ss := (.cons (.asg (.t (.cons (.n 5) (.cons (.n 6) .nil))) (.tup (.cons (.call 18 (.cons (.v 0) .nil)) (.cons (.bin .add (.int 1) (.call 13 (.cons (.v 0) (.cons (.int 3) .nil)))) .nil)))) (.cons (.own 2 (.lst .nil)) (.cons (.for' (.n 3) (.rng1 (.int 6)) lapB) (.cons (.for' (.n 4) (.of (.v 2)) joinB) .nil))))
abbrev cE (n : Nat) (x1 x2 x3 x4 x5 x6 x7 x8 x9 x10 x11 : Slot) : Ev := [.rf n, x1, x2, x3, x4, x5, x6, x7, x8, x9, x10, x11, .no, .no, .no, .no, .no]
/-- a vector of the web -/
def Gd (es : List Edge) (b : Int) (x : D) : Prop := ∃ u, x = vec true (nms es).length u ∧ Nn (nms es).length u ∧ posB (nms es).length u = true ∧ Carr (nms es).length (EF es) b u
/-- things beside a vector -/
def nearL (l : List Int) (k : Bool) : List (D × Bool) := [(.tuple (l.map .int), k), (.list (l.map .int), false), (.tuple ((l.drop 1).map .int), false), (.tuple (l.map .int ++ [.int 0]), false), (.tuple (.none :: (l.drop 1).map .int), false), (.tuple (.int (-1) :: (l.drop 1).map .int), false), (.none, false)]
theorem isIN_ints (l : List Int) : ∀ d ∈ l.map PyData.int, isIN d = true := fun d hd => by
  obtain ⟨i, _, rfl⟩ := List.mem_map.mp hd
  rfl
theorem near_ok (k : Nat) {es : List Edge} (e0 : es ≠ []) (el : es.length ≤ 9) {b : Int} (hb : Sml b) (l : List Int) (hl : l.length = (nms es).length) (hn : ∀ x ∈ l, 0 ≤ x ∧ x ≤ 5) (st : Sto) :
    ∀ p ∈ nearL l (posB (nms es).length (fun i => l.getD i 0) && carrB (nms es).length (EF es) b fun i => l.getD i 0), go (k + 4) 8 [.d (webD true true es), .d (.int b), .d p.1] st = some (.d (.bool p.2), st) := fun p hp => by
  have hN : (nms es).length ≤ 18 := by have := nms_len3 es; omega
  have hp0 := pos_nms e0
  have hv : PyData.tuple (l.map .int) = vec true (nms es).length fun i => l.getD i 0 := by rw [ints_fun, hl]; rfl
  unfold nearL at hp
  simp only [List.mem_cons, List.not_mem_nil, or_false] at hp
  have hdl : ((l.drop 1).map PyData.int).length = l.length - 1 := by rw [List.length_map, List.length_drop]
  rcases hp with rfl | rfl | rfl | rfl | rfl | rfl | rfl
  · show go (k + 4) 8 [.d (webD true true es), .d (.int b), .d (.tuple (l.map .int))] st = _
    rw [hv]
    exact s_is_vector k true true es (by omega) hb (fun i hi => (getD_bd hn (by omega)).1) st
  · exact s_vec_not k true true es (by omega) b _ rfl rfl st
  · refine s_vec_bad k true true es (by omega) b _ (isIN_ints _) ?_ (by rw [hdl]; omega) st
    unfold tupB
    rw [hdl, decide_eq_false (by omega)]; rfl
  · refine s_vec_bad k true true es (by omega) b _ (fun d hd => ?_) ?_ (by rw [List.length_append, List.length_map, List.length_singleton]; omega) st
    · rcases List.mem_append.mp hd with hd | hd
      · exact isIN_ints l d hd
      · rw [List.mem_singleton.mp hd]; rfl
    · unfold tupB
      rw [List.length_append, List.length_map, List.length_singleton, decide_eq_false (by omega)]; rfl
  · refine s_vec_bad k true true es (by omega) b _ (fun d hd => ?_) ?_ (by rw [List.length_cons, hdl]; omega) st
    · rcases List.mem_cons.mp hd with rfl | hd
      · rfl
      · exact isIN_ints _ d hd
    · unfold tupB
      rw [List.all_cons]
      show (_ && (false && _)) = false
      rw [Bool.false_and, Bool.and_false]
  · refine s_vec_bad k true true es (by omega) b _ (fun d hd => ?_) ?_ (by rw [List.length_cons, hdl]; omega) st
    · rcases List.mem_cons.mp hd with rfl | hd
      · rfl
      · exact isIN_ints _ d hd
    · unfold tupB
      rw [List.all_cons]
      show (_ && (false && _)) = false
      rw [Bool.false_and, Bool.and_false]
  · exact s_vec_not k true true es (by omega) b _ rfl rfl st
theorem pool_mem {x : D} (h : x ∈ [PyData.int 0, .int 1, .int 1, .int 2, .int 3, .int 5]) : ∃ m : Nat, m ≤ 5 ∧ x = .int (m : Nat) := by
  simp only [List.mem_cons, List.not_mem_nil, or_false] at h
  rcases h with rfl | rfl | rfl | rfl | rfl | rfl
  · exact ⟨0, by decide, rfl⟩
  · exact ⟨1, by decide, rfl⟩
  · exact ⟨1, by decide, rfl⟩
  · exact ⟨2, by decide, rfl⟩
  · exact ⟨3, by decide, rfl⟩
  · exact ⟨5, by decide, rfl⟩
theorem lap_ok (k q n : Nat) (hq : q < 2 ^ 40) {es : List Edge} (e0 : es ≠ []) (el : es.length ≤ 9) {b : Int} (hb0 : 0 < b) (hb3 : b ≤ 3) (some' : List D) (hs : ∀ x ∈ some', Gd es b x) (hsl : some'.length ≤ 1000) (st : Sto) (hb : BoxOk q st n) (x1 x3 x4 x7 x8 x9 x10 x11 : Slot) :
    ∃ y4 y7 y8 y9 y10 some2 st', execs gld (run gld fns 100000 (k + 10)) 100000 lapB (cE n x1 (.ow (.list some')) x3 x4 (.sh (webD true true es)) (.sh (.int b)) x7 x8 x9 x10 x11) st = some (.nx, cE n x1 (.ow (.list some2)) x3 y4 (.sh (webD true true es)) (.sh (.int b)) y7 y8 y9 y10 x11, st')
      ∧ (∀ x ∈ some2, Gd es b x) ∧ some2.length ≤ some'.length + 1 ∧ BoxOk (q + 18) st' n ∧ st'.length = st.length := by
  have hbS : Sml b := ⟨by omega, by omega⟩
  have hN : (nms es).length ≤ 18 := by have := nms_len3 es; omega
  have hnm : run gld fns 100000 (k + 10) 19 [.d (webD true true es)] st = some (.fr (.list ((nms es).map PyData.str)), st) := s_names (k + 9) es (by omega) st
  -- the drawn vector
  obtain ⟨ys, s4, y1, ⟨y2, y3, y4⟩, y5⟩ := ev_lcI (gl := gld) (cf := run gld fns 100000 (k + 10)) (vs := [13]) (e := .call 15 (.cons (.v 0) (.cons (.lst (.cons (.int 0) (.cons (.int 1) (.cons (.int 1) (.cons (.int 2) (.cons (.int 3) (.cons (.int 5) .nil))))))) .nil))) (t := .n 13) (it := .of (.call 19 (.cons (.v 5) .nil))) (c := .no)
    (env := cE n x1 (.ow (.list some')) x3 x4 (.sh (webD true true es)) (.sh (.int b)) x7 x8 x9 x10 x11) (st := st) (s := st) (xs := (nms es).map PyData.str)
    (fun acc s => (∀ y ∈ acc, ∃ m : Nat, m ≤ 5 ∧ y = .int (m : Nat)) ∧ BoxOk (q + acc.length) s n ∧ s.length = st.length)
    (evi_of (bor_E rfl (ev_call (eva_cons (ev_sh rfl) eva_nil) hnm) rfl) rfl) ⟨fun _ h => (by cases h), hb, rfl⟩
    (fun pre x post acc s e hl ⟨i1, i2, i3⟩ => by
      have hlen := congrArg List.length e
      rw [List.length_map, List.length_append, List.length_cons] at hlen
      obtain ⟨x2, s', m1, m2, m3, m4⟩ := s_of (k + 8) false [.int 0, .int 1, .int 1, .int 2, .int 3, .int 5] (by decide) (by decide) (q + acc.length) n (by omega) s i2
      have m2 : run gld fns 100000 (k + 10) 15 [.rf n, .d (.list [.int 0, .int 1, .int 1, .int 2, .int 3, .int 5])] s = some (.d x2, s') := m2
      refine ⟨[.rf n, x1, .ow (.list some'), x3, x4, .sh (webD true true es), .sh (.int b), x7, x8, x9, x10, x11, .no, .sh x, .no, .no, .no], x2, s', rfl, rfl, toD_E (ev_call (eva_cons (ev_rfQ rfl) (eva_cons (w := .fr (.list [.int 0, .int 1, .int 1, .int 2, .int 3, .int 5])) rfl eva_nil)) m2) rfl, fun y hy => ?_, ?_, by omega⟩
      · rcases List.mem_append.mp hy with hy | hy
        · exact i1 y hy
        · rw [List.mem_singleton.mp hy]; exact pool_mem m1
      · rw [List.length_append, List.length_singleton, ← Nat.add_assoc]; exact m3) (by rw [List.length_map]; show _ ≤ 16777216; omega)
  rw [List.length_map] at y5
  obtain ⟨l, rfl, hl⟩ := ints_of y2
  rw [List.length_map] at y5 y3
  have hvec : PyData.tuple (l.map PyData.int) = vec true (nms es).length fun i => l.getD i 0 := by
    rw [ints_fun, y5]; rfl
  have hvec2 : PyData.list (l.map PyData.int) = vec false (nms es).length fun i => l.getD i 0 := by
    rw [ints_fun, y5]; rfl
  have hl5 : ∀ x ∈ l, 0 ≤ x ∧ x ≤ 5 := hl
  generalize hv : (fun i => l.getD i 0) = v at hvec hvec2
  have hnn : Nn (nms es).length v := fun i hi => by rw [← hv]; exact (getD_bd hl5 (by omega)).1
  -- what is led
  have hled : run gld fns 100000 (k + 10) 20 [.d (webD true true es), .d (.tuple (l.map .int))] s4 = some (.fr (vec false (nms es).length fun i => led v (EF es i)), s4) := by
    rw [hvec]
    exact (show out (execs gld (run gld fns 100000 (k + 9)) 100000 b20 [.sh (webD true true es), .sh (vec true (nms es).length v), .no, .no, .no, .no] s4) = _ from led_ok true true true es e0 (by omega) v s4 (s_names (k + 8) es (by omega) s4))
  let lows : List Int := ((List.range (nms es).length).filter fun i => decide (led v (EF es i) < b * v i)).map fun i => ((i : Nat) : Int)
  have hlow : ev gld (run gld fns 100000 (k + 10)) (.lc [14, 15] (.v 14) (.t (.cons (.n 14) (.cons (.n 15) .nil))) (.enm (.call 20 (.cons (.v 5) (.cons (.v 4) .nil)))) (.yes (.cmp .lt (.v 15) (.bin .mul (.v 6) (.ix (.v 4) (.v 14)))))) (cE n x1 (.ow (.list some')) x3 (.sh (.tuple (l.map .int))) (.sh (webD true true es)) (.sh (.int b)) x7 x8 x9 x10 x11) s4 = some (.fr (.list (lows.map .int)), s4) := by
    have h := lcY (gl := gld) (cf := run gld fns 100000 (k + 10)) (vs := [14, 15]) (e := .v 14) (t := .t (.cons (.n 14) (.cons (.n 15) .nil))) (it := .enm (.call 20 (.cons (.v 5) (.cons (.v 4) .nil)))) (c := .cmp .lt (.v 15) (.bin .mul (.v 6) (.ix (.v 4) (.v 14)))) (env := cE n x1 (.ow (.list some')) x3 (.sh (.tuple (l.map .int))) (.sh (webD true true es)) (.sh (.int b)) x7 x8 x9 x10 x11) (st := s4)
      (xs := List.range (nms es).length) (a := fun i => .tuple [.int ((i : Nat) : Int), .int (led v (EF es i))]) (p := fun i => decide (led v (EF es i) < b * v i)) (f := fun i => .int ((i : Nat) : Int))
      (E1 := fun i => [.rf n, x1, .ow (.list some'), x3, .sh (.tuple (l.map .int)), .sh (webD true true es), .sh (.int b), x7, x8, x9, x10, x11, .no, .no, .sh (.int ((i : Nat) : Int)), .sh (.int (led v (EF es i))), .no])
      (evi_enmQ (bor_E rfl (ev_call (eva_cons (ev_sh rfl) (eva_cons (ev_sh rfl) eva_nil)) hled) rfl) rfl (enumD_range _ _)) (fun _ _ => rfl)
      (fun i hi => evc_yes (bor_E rfl (ev_cmp (bor_sh rfl) (bor_E rfl (ev_bin (bor_sh rfl) (bor_E rfl (ev_ix (bor_sh (x := vec true (nms es).length v) (by show Slot.sh (.tuple (l.map .int)) = _; rw [hvec])) (bor_sh rfl) (ix_sq true (at_range (fun i => .int (v i)) (List.mem_range.mp hi)))) rfl) (mulL hbS)) rfl) (lt_int _ _)) rfl) rfl)
      (fun i _ _ => toD_E (ev_sh rfl) rfl) (range_SL (by omega))
    rw [h, List.map_map]; rfl
  -- is it fine
  have hfine : ev gld (run gld fns 100000 (k + 10)) (.and (.cmp .gt (.f1 .max (.v 4)) (.int 0)) (.cmp .eq (.v 7) (.lst .nil))) (cE n x1 (.ow (.list some')) x3 (.sh (.tuple (l.map .int))) (.sh (webD true true es)) (.sh (.int b)) (.sh (.list (lows.map .int))) x8 x9 x10 x11) s4 = some (.d (.bool (posB (nms es).length v && carrB (nms es).length (EF es) b v)), s4) := by
    obtain ⟨m, m1, m2⟩ := max_tup (nms es).length (pos_nms e0) v
    rw [← m2, ← carr_low]
    exact ev_andB (ev_cmp (bor_E rfl (ev_f1 (bor_sh (x := vec true (nms es).length v) (by show Slot.sh (.tuple (l.map .int)) = _; rw [hvec])) m1) rfl) (bor_E rfl ev_int rfl) (gt_int _ _)) fun _ => ev_cmp (bor_sh rfl) (bor_E rfl rfl rfl) (eq_nil lows)
  have hlen0 : (l.map PyData.int).length ≤ 18 := by rw [List.length_map]; omega
  have hcut : cutD (l.map PyData.int) (some 1) none = (l.drop 1).map .int := by
    rw [show (1 : Int) = ((1 : Nat) : Int) from rfl, cutD_drop, List.map_drop]
  have hcl : ((l.drop 1).map PyData.int).length ≤ 18 := by rw [List.length_map, List.length_drop]; omega
  have near := near_ok (k + 6) e0 el hbS l y5 hl5 s4
  rw [hv] at near
  generalize hkk : (posB (nms es).length v && carrB (nms es).length (EF es) b v) = kk at hfine near
  have hsl4 : ∀ (e : Ev), look e 4 = .sh (.tuple (l.map .int)) → ev gld (run gld fns 100000 (k + 10)) (.sl (.v 4) (.yes (.int 1)) .no) e s4 = some (.d (.tuple ((l.drop 1).map .int)), s4) := fun e he =>
    ev_sl (bor_sh he) (evo_yes (bor_E rfl ev_int rfl)) evo_no (by show some (Vl.d (.tuple (cutD (l.map PyData.int) (some 1) none))) = _; rw [hcut])
  have hnear : ev gld (run gld fns 100000 (k + 10)) (.lst (.cons (.v 4) (.cons (.f1 .list (.v 4)) (.cons (.sl (.v 4) (.yes (.int 1)) .no) (.cons (.bin .add (.v 4) (.tup (.cons (.int 0) .nil))) (.cons (.bin .add (.tup (.cons .non .nil)) (.sl (.v 4) (.yes (.int 1)) .no)) (.cons (.bin .add (.tup (.cons (.neg (.int 1)) .nil)) (.sl (.v 4) (.yes (.int 1)) .no)) (.cons .non .nil)))))))) (cE n x1 (.ow (.list some')) x3 (.sh (.tuple (l.map .int))) (.sh (webD true true es)) (.sh (.int b)) (.sh (.list (lows.map .int))) (.sh (.bool kk)) x9 x10 x11) s4 = some (.fr (.list ((nearL l kk).map fun p => p.1)), s4) :=
    ev_lst (evs_cons (toD_E (ev_sh rfl) rfl) (evs_cons (toD_E (ev_f1 (bor_sh rfl) rfl) rfl) (evs_cons (toD_E (hsl4 _ rfl) rfl) (evs_cons (toD_E (ev_bin (bor_sh rfl) (bor_E rfl rfl rfl) (add_tup _ [.int 0] (by show _ ≤ 16777216; rw [List.length_singleton]; omega))) rfl)
      (evs_cons (toD_E (ev_bin (bor_E rfl rfl rfl) (bor_E rfl (hsl4 _ rfl) rfl) (add_tup [.none] _ (by show _ ≤ 16777216; rw [List.length_singleton]; omega))) rfl) (evs_cons (toD_E (ev_bin (bor_E rfl rfl rfl) (bor_E rfl (hsl4 _ rfl) rfl) (add_tup [.int (-1)] _ (by show _ ≤ 16777216; rw [List.length_singleton]; omega))) rfl) (evs_cons rfl evs_nil))))))) (by decide : (7 : Nat) ≤ SL)
  have hgot : ev gld (run gld fns 100000 (k + 10)) (.lc [12] (.call 8 (.cons (.v 5) (.cons (.v 6) (.cons (.v 12) .nil)))) (.n 12) (.of (.v 9)) .no) (cE n x1 (.ow (.list some')) x3 (.sh (.tuple (l.map .int))) (.sh (webD true true es)) (.sh (.int b)) (.sh (.list (lows.map .int))) (.sh (.bool kk)) (.sh (.list ((nearL l kk).map fun p => p.1))) x10 x11) s4 = some (.fr (.list ((nearL l kk).map fun p => .bool p.2)), s4) :=
    lcN (xs := nearL l kk) (a := fun p => p.1) (f := fun p => .bool p.2) (E1 := fun p => [.rf n, x1, .ow (.list some'), x3, .sh (.tuple (l.map .int)), .sh (webD true true es), .sh (.int b), .sh (.list (lows.map .int)), .sh (.bool kk), .sh (.list ((nearL l kk).map fun p => p.1)), x10, x11, .sh p.1, .no, .no, .no, .no])
      (evi_of (bor_sh rfl) rfl) (fun _ _ => rfl) (fun p hp => toD_E (ev_call (eva_cons (ev_sh rfl) (eva_cons (ev_sh rfl) (eva_cons (ev_sh rfl) eva_nil))) (near p hp)) rfl) (by decide : (7 : Nat) ≤ SL)
  obtain ⟨w17, l1, l2⟩ := s_lists (k + 7) es (by omega) s4
  have l1 : run gld fns 100000 (k + 10) 17 [.d (webD true true es)] s4 = some (w17, s4) := l1
  have hvec8 : run gld fns 100000 (k + 10) 8 [.d (webD false false es), .d (.int b), .d (.tuple (l.map .int))] s4 = some (.d (.bool kk), s4) := by
    rw [← hkk, hvec]
    exact s_is_vector (k + 6) false false es (by omega) hbS hnn s4
  let got : D := .list ((nearL l kk).map fun p => .bool p.2)
  let env : Ev := cE n x1 (.ow (.list some')) x3 (.sh (.tuple (l.map .int))) (.sh (webD true true es)) (.sh (.int b)) (.sh (.list (lows.map .int))) (.sh (.bool kk)) (.sh (.list ((nearL l kk).map fun p => p.1))) (.sh got) x11
  let ans : D := .list [.bool kk, .bool false, .bool false, .bool false, .bool false, .bool false, .bool false, .bool kk]
  have hleft : ev gld (run gld fns 100000 (k + 10)) (.bin .add (.v 10) (.lst (.cons (.callk 8 .nil (.cons (.v 4) (.cons (.v 6) (.cons (.call 17 (.cons (.v 5) .nil)) .nil))) [2, 1, 0]) .nil))) env s4 = some (.fr ans, s4) :=
    ev_bin (bor_sh rfl) (bor_E rfl (ev_lst (evs_cons (toD_E (ev_callk eva_nil (eva_cons (ev_sh rfl) (eva_cons (ev_sh rfl) (eva_cons (ev_call (eva_cons (ev_sh rfl) eva_nil) l1) eva_nil))) (by rw [argV_of l2]; rfl) hvec8) rfl) evs_nil) (by decide : (1 : Nat) ≤ SL)) rfl) (add_lists _ _ (by decide : (8 : Nat) ≤ SL))
  have hright : ev gld (run gld fns 100000 (k + 10)) (.bin .add (.bin .add (.lst (.cons (.v 8) .nil)) (.rep (.lst (.cons (.bl false) .nil)) (.int 6))) (.lst (.cons (.v 8) .nil))) env s4 = some (.fr ans, s4) := rfl
  have hsame : run gld fns 100000 (k + 10) 16 [.d ans, .d ans] s4 = some (.d (.bool true), s4) := s_same (k + 10) ans (fine_le (show 2 ≤ k + 10 by omega) (show fine 2 ans = true from rfl)) s4
  have hite : ∀ ss r, execs gld (run gld fns 100000 (k + 10)) 100000 ss env s4 = r → execs gld (run gld fns 100000 (k + 10)) 100000 (.cons (.ite (.not (.call 16 (.cons (.bin .add (.v 10) (.lst (.cons (.callk 8 .nil (.cons (.v 4) (.cons (.v 6) (.cons (.call 17 (.cons (.v 5) .nil)) .nil))) [2, 1, 0]) .nil))) (.cons (.bin .add (.bin .add (.lst (.cons (.v 8) .nil)) (.rep (.lst (.cons (.bl false) .nil)) (.int 6))) (.lst (.cons (.v 8) .nil))) .nil)))) (.cons (.ret (.bl false)) .nil) .nil) ss) env s4 = r := fun ss r h =>
    exs_iteF (s := s4) (tru_E (x := .bool false) (bor_E rfl (ev_not (k := true) (x := .bool true) (bor_E rfl (ev_call (eva_cons hleft (eva_cons hright eva_nil)) hsame) rfl) rfl) rfl) rfl) h
  cases kk with
  | false =>
    refine ⟨.sh (.tuple (l.map .int)), .sh (.list (lows.map .int)), .sh (.bool false), .sh (.list ((nearL l false).map fun p => p.1)), .sh got, some', s4, ?_, hs, by omega, y3.mono (by omega), y4⟩
    refine exs_cons (ex_asg (x := .tuple (l.map .int)) (s := s4) (toD_E (ev_f1 (bor_E rfl y1 rfl) rfl) rfl) rfl) ?_
    refine exs_cons (ex_asg (x := .list (lows.map .int)) (s := s4) (toD_E hlow rfl) rfl) ?_
    refine exs_cons (ex_asg (x := .bool false) (s := s4) (toD_E hfine rfl) rfl) ?_
    refine exs_cons (ex_asg (x := .list ((nearL l false).map fun p => p.1)) (s := s4) (toD_E hnear rfl) rfl) ?_
    refine exs_cons (ex_asg (x := got) (s := s4) (toD_E hgot rfl) rfl) ?_
    refine hite _ _ ?_
    exact exs_iteF (s := s4) rfl rfl
  | true =>
    rw [Bool.and_eq_true] at hkk
    refine ⟨.sh (.tuple (l.map .int)), .sh (.list (lows.map .int)), .sh (.bool true), .sh (.list ((nearL l true).map fun p => p.1)), .sh got, some' ++ [.tuple (l.map .int)], s4, ?_, fun x hx => ?_, by rw [List.length_append, List.length_singleton]; omega, y3.mono (by omega), y4⟩
    · refine exs_cons (ex_asg (x := .tuple (l.map .int)) (s := s4) (toD_E (ev_f1 (bor_E rfl y1 rfl) rfl) rfl) rfl) ?_
      refine exs_cons (ex_asg (x := .list (lows.map .int)) (s := s4) (toD_E hlow rfl) rfl) ?_
      refine exs_cons (ex_asg (x := .bool true) (s := s4) (toD_E hfine rfl) rfl) ?_
      refine exs_cons (ex_asg (x := .list ((nearL l true).map fun p => p.1)) (s := s4) (toD_E hnear rfl) rfl) ?_
      refine exs_cons (ex_asg (x := got) (s := s4) (toD_E hgot rfl) rfl) ?_
      refine hite _ _ ?_
      exact exs_iteT (s := s4) rfl (exs_cons (ex_app (toD_E (ev_sh rfl) rfl) rfl (by show _ < 16777216; omega)) rfl)
    · rcases List.mem_append.mp hx with hx | hx
      · exact hs x hx
      · rw [List.mem_singleton.mp hx]
        exact ⟨v, hvec, hnn, hkk.1, carrB_iff.mp hkk.2⟩
theorem pos_max {n : Nat} {u v : Nat → Int} (h : posB n u = true) : posB n (fun i => max (u i) (v i)) = true := by
  obtain ⟨i, hi, h2⟩ := List.any_eq_true.mp h
  have h3 := of_decide_eq_true h2
  exact List.any_eq_true.mpr ⟨i, hi, decide_eq_true (by show 0 < max (u i) (v i); omega)⟩
theorem pos_add {n : Nat} {u v : Nat → Int} (hv : Nn n v) (h : posB n u = true) : posB n (fun i => u i + v i) = true := by
  obtain ⟨i, hi, h2⟩ := List.any_eq_true.mp h
  have h3 := of_decide_eq_true h2
  have h4 := hv i (List.mem_range.mp hi)
  exact List.any_eq_true.mpr ⟨i, hi, decide_eq_true (by show 0 < u i + v i; omega)⟩
theorem join_ok (k n : Nat) {es : List Edge} (e0 : es ≠ []) (el : es.length ≤ 9) {b : Int} (hb0 : 0 < b) (hb3 : b ≤ 3) (x0 : D) (r : List D) (h0 : Gd es b x0) (y : D) (hy : Gd es b y) (st : Sto) (x1 x3 x7 x8 x9 x10 x11 : Slot) :
    ∃ y11, execs gld (run gld fns 100000 (k + 10)) 100000 joinB (cE n x1 (.lk (.list (x0 :: r))) x3 (.sh y) (.sh (webD true true es)) (.sh (.int b)) x7 x8 x9 x10 x11) st = some (.nx, cE n x1 (.lk (.list (x0 :: r))) x3 (.sh y) (.sh (webD true true es)) (.sh (.int b)) x7 x8 x9 x10 y11, st) := by
  obtain ⟨u, rfl, u1, u2, u3⟩ := h0
  obtain ⟨v, rfl, v1, v2, v3⟩ := hy
  have hbS : Sml b := ⟨by omega, by omega⟩
  have hN : (nms es).length ≤ 18 := by have := nms_len3 es; omega
  have hix : ∀ e : Ev, look e 2 = .lk (.list (vec true (nms es).length u :: r)) → ev gld (run gld fns 100000 (k + 10)) (.ix (.v 2) (.int 0)) e st = some (.d (vec true (nms es).length u), st) := fun e he => ev_ix (bor_lk he) (bor_E rfl ev_int rfl) (ix_sq false (xs := vec true (nms es).length u :: r) (j := 0) rfl)
  have hj := s_joined (k + 7) (nms es).length (by omega) u v st
  have hj : run gld fns 100000 (k + 10) 9 [.d (vec true (nms es).length u), .d (vec true (nms es).length v)] st = some (.d (vec true (nms es).length fun i => max (u i) (v i)), st) := hj
  have h1 := s_is_vector (k + 6) true true es (by omega) hbS (v := fun i => max (u i) (v i)) (fun i hi => by have := u1 i hi; show 0 ≤ max (u i) (v i); omega) st
  rw [pos_max u2, carrB_iff.mpr (Carr.max (EF_inn es) (by omega) u3 v3)] at h1
  have h1 : run gld fns 100000 (k + 10) 8 [.d (webD true true es), .d (.int b), .d (vec true (nms es).length fun i => max (u i) (v i))] st = some (.d (.bool true), st) := h1
  have h2 := s_is_vector (k + 6) true true es (by omega) hbS (v := fun i => u i + v i) (fun i hi => by have := u1 i hi; have := v1 i hi; show 0 ≤ u i + v i; omega) st
  rw [pos_add v1 u2, carrB_iff.mpr (Carr.add u3 v3)] at h2
  have h2 : run gld fns 100000 (k + 10) 8 [.d (webD true true es), .d (.int b), .d (vec true (nms es).length fun i => u i + v i)] st = some (.d (.bool true), st) := h2
  let env : Ev := cE n x1 (.lk (.list (vec true (nms es).length u :: r))) x3 (.sh (vec true (nms es).length v)) (.sh (webD true true es)) (.sh (.int b)) x7 x8 x9 x10 (.sh (vec true (nms es).length fun i => max (u i) (v i)))
  have hz : evi gld (run gld fns 100000 (k + 10)) (.zip (.ix (.v 2) (.int 0)) (.v 4)) env st = some ((List.range (nms es).length).map fun i => .tuple [.int (u i), .int (v i)], st) :=
    evi_zip (bor_E rfl (hix _ rfl) rfl) (bor_sh rfl) (by
      refine (zip_sq2 true true _ _).trans ?_
      rw [zipD_map])
  have hmax : ev gld (run gld fns 100000 (k + 10)) (.f1 .tuple (.lc [9, 16] (.f2 .max (.v 9) (.v 16)) (.t (.cons (.n 9) (.cons (.n 16) .nil))) (.zip (.ix (.v 2) (.int 0)) (.v 4)) .no)) env st = some (.d (vec true (nms es).length fun i => max (u i) (v i)), st) :=
    ev_f1 (bor_E rfl (lcN (xs := List.range (nms es).length) (a := fun i => .tuple [.int (u i), .int (v i)]) (f := fun i => .int (max (u i) (v i))) (E1 := fun i => [.rf n, x1, .lk (.list (vec true (nms es).length u :: r)), x3, .sh (vec true (nms es).length v), .sh (webD true true es), .sh (.int b), x7, x8, .sh (.int (u i)), x10, .sh (vec true (nms es).length fun i => max (u i) (v i)), .no, .no, .no, .no, .sh (.int (v i))])
      hz (fun _ _ => rfl) (fun i _ => toD_E (ev_f2 (bor_sh rfl) (bor_sh rfl) (max_int _ _)) rfl) (range_SL (by omega))) rfl) rfl
  have hsum : ev gld (run gld fns 100000 (k + 10)) (.f1 .tuple (.lc [9, 16] (.bin .add (.v 9) (.v 16)) (.t (.cons (.n 9) (.cons (.n 16) .nil))) (.zip (.ix (.v 2) (.int 0)) (.v 4)) .no)) env st = some (.d (vec true (nms es).length fun i => u i + v i), st) :=
    ev_f1 (bor_E rfl (lcN (xs := List.range (nms es).length) (a := fun i => .tuple [.int (u i), .int (v i)]) (f := fun i => .int (u i + v i)) (E1 := fun i => [.rf n, x1, .lk (.list (vec true (nms es).length u :: r)), x3, .sh (vec true (nms es).length v), .sh (webD true true es), .sh (.int b), x7, x8, .sh (.int (u i)), x10, .sh (vec true (nms es).length fun i => max (u i) (v i)), .no, .no, .no, .no, .sh (.int (v i))])
      hz (fun _ _ => rfl) (fun i _ => toD_E (ev_bin (bor_sh rfl) (bor_sh rfl) (addI _ _)) rfl) (range_SL (by omega))) rfl) rfl
  refine ⟨.sh (vec true (nms es).length fun i => max (u i) (v i)), ?_⟩
  refine exs_cons (ex_asg (x := vec true (nms es).length fun i => max (u i) (v i)) (s := st) (toD_E (ev_call (eva_cons (hix _ rfl) (eva_cons (ev_sh rfl) eva_nil)) hj) rfl) rfl) ?_
  refine exs_iteF (s := st) (tru_E (x := .bool false) (bor_E rfl (ev_not (k := true) (x := .bool true) (bor_E rfl (ev_call (eva_cons (ev_sh rfl) (eva_cons hmax eva_nil)) (s_same (k + 10) _ (fine_le (show 2 ≤ k + 10 by omega) (fine_vec true _ (by omega) _)) st)) rfl) rfl) rfl) rfl) ?_
  exact exs_iteF (s := st) (tru_E (x := .bool false) (bor_E rfl (ev_or2 (ev_not (k := true) (x := .bool true) (bor_E rfl (ev_call (eva_cons (ev_sh rfl) (eva_cons (ev_sh rfl) (eva_cons (ev_sh rfl) eva_nil))) h1) rfl) rfl) rfl rfl (ev_not (k := true) (x := .bool true) (bor_E rfl (ev_call (eva_cons (ev_sh rfl) (eva_cons (ev_sh rfl) (eva_cons hsum eva_nil))) h2) rfl) rfl)) rfl) rfl) rfl
theorem turn_ok (k q n : Nat) (hq : q < 2 ^ 38) (st : Sto) (hb : BoxOk q st n) (x1 x2 x3 x4 x5 x6 x7 x8 x9 x10 x11 : Slot) :
    ∃ y2 y3 y4 y5 y6 y7 y8 y9 y10 y11 st', execs gld (run gld fns 100000 (k + 10)) 100000 turnB (cE n x1 x2 x3 x4 x5 x6 x7 x8 x9 x10 x11) st = some (.nx, cE n x1 y2 y3 y4 y5 y6 y7 y8 y9 y10 y11, st') ∧ BoxOk (q + 200) st' n ∧ st'.length = st.length := by
  obtain ⟨es, s1, e0, el, e1, e2, e3⟩ := s_web (k + 7) q n (by omega) st hb
  have e1 : run gld fns 100000 (k + 10) 18 [.rf n] st = some (.d (webD true true es), s1) := e1
  obtain ⟨v, s2, v1, v2, v3, v4⟩ := s_take (k + 9) (q + 40) n 3 (by decide) (by decide) (by omega) s1 e2
  have v2 : run gld fns 100000 (k + 10) 13 [.rf n, .d (.int 3)] s1 = some (.d (.int (v : Nat)), s2) := v2
  have hadd : binD .add (.int 1) (.int (v : Nat)) = some (.d (.int (1 + (v : Nat)))) := addI _ _
  generalize hbb : (1 + (v : Nat) : Int) = b at hadd
  have hb0 : 0 < b := by omega
  have hb3 : b ≤ 3 := by omega
  obtain ⟨e3', s3, hf, x3', y4, y7, y8, y9, y10, sm, he, hg, hgl, hbx, hlen⟩ := forL_ind (bd := bindT (.n 3)) (body := fun e1 s1 => execs gld (run gld fns 100000 (k + 10)) 100000 lapB e1 s1) (fun i : Nat => PyData.int ((i : Nat) : Int)) (ys := List.range 6)
    (fun pre env s => ∃ x3 y4 y7 y8 y9 y10 sm, env = cE n x1 (.ow (.list sm)) x3 y4 (.sh (webD true true es)) (.sh (.int b)) y7 y8 y9 y10 x11 ∧ (∀ x ∈ sm, Gd es b x) ∧ sm.length ≤ pre.length ∧ BoxOk (q + 41 + 18 * pre.length) s n ∧ s.length = st.length)
    (fun pre i post env s e ⟨x3, y4, y7, y8, y9, y10, sm, he, hg, hgl, hbx, hlen⟩ => by
      subst he
      have hlen2 := congrArg List.length e
      rw [List.length_range, List.length_append, List.length_cons] at hlen2
      obtain ⟨z4, z7, z8, z9, z10, sm2, s', t1, t2, t3, t4, t5⟩ := lap_ok k (q + 41 + 18 * pre.length) n (by omega) e0 el hb0 hb3 sm hg (by omega) s hbx x1 (.sh (.int ((i : Nat) : Int))) y4 y7 y8 y9 y10 x11
      refine ⟨cE n x1 (.ow (.list sm)) (.sh (.int ((i : Nat) : Int))) y4 (.sh (webD true true es)) (.sh (.int b)) y7 y8 y9 y10 x11, _, s', rfl, t1, .sh (.int ((i : Nat) : Int)), z4, z7, z8, z9, z10, sm2, rfl, t2, ?_, t4.mono ?_, by omega⟩
      · rw [List.length_append, List.length_singleton]; omega
      · rw [List.length_append, List.length_singleton]; omega)
    (List.range 6) [] (cE n x1 (.ow (.list [])) x3 x4 (.sh (webD true true es)) (.sh (.int b)) x7 x8 x9 x10 x11) s2 rfl ⟨x3, x4, x7, x8, x9, x10, [], rfl, fun _ h => (by cases h), by decide, v3.mono (by show _ ≤ q + 41 + 18 * 0; omega), by omega⟩
  subst he
  -- the second loop
  obtain ⟨e4, s4', hf2, z4, z11, he, hs4⟩ := forL_ind (bd := bindT (.n 4)) (body := fun e1 s1 => execs gld (run gld fns 100000 (k + 10)) 100000 joinB e1 s1) (fun x : D => x) (ys := sm)
    (fun pre env s => ∃ z4 z11, env = cE n x1 (.lk (.list sm)) x3' z4 (.sh (webD true true es)) (.sh (.int b)) y7 y8 y9 y10 z11 ∧ s = s3)
    (fun pre x post env s e ⟨z4, z11, he, hs⟩ => by
      subst he hs
      have hx : x ∈ sm := by rw [e]; exact List.mem_append_right _ List.mem_cons_self
      obtain ⟨x0, r, hsm⟩ := List.exists_cons_of_ne_nil (show sm ≠ [] from fun z => by rw [z] at hx; cases hx)
      obtain ⟨w11, t1⟩ := join_ok k n e0 el hb0 hb3 x0 r (hg x0 (by rw [hsm]; exact List.mem_cons_self)) x (hg x hx) s x1 x3' y7 y8 y9 y10 z11
      rw [← hsm] at t1
      exact ⟨cE n x1 (.lk (.list sm)) x3' (.sh x) (.sh (webD true true es)) (.sh (.int b)) y7 y8 y9 y10 z11, _, s, rfl, t1, .sh x, w11, rfl, rfl⟩)
    sm [] (cE n x1 (.lk (.list sm)) x3' y4 (.sh (webD true true es)) (.sh (.int b)) y7 y8 y9 y10 x11) s3 rfl ⟨y4, x11, rfl, rfl⟩
  subst he hs4
  rw [List.map_id'] at hf2
  refine ⟨.ow (.list sm), x3', z4, .sh (webD true true es), .sh (.int b), y7, y8, y9, y10, z11, s4', ?_, hbx.mono (by rw [List.length_range]; omega), hlen⟩
  refine exs_cons (ex_asg (x := .tuple [webD true true es, .int b]) (s := s2) (toD_E (ev_tup (evs_cons (toD_E (ev_call (eva_cons (ev_rfQ rfl) eva_nil) e1) rfl) (evs_cons (toD_E (ev_bin (bor_E rfl ev_int rfl) (bor_E rfl (ev_call (eva_cons (ev_rfQ rfl) (eva_cons ev_int eva_nil)) v2) rfl) hadd) rfl) evs_nil)) (le2 _ _)) rfl) rfl) ?_
  refine exs_cons (ex_own (x := .list []) rfl rfl) ?_
  refine exs_cons (ex_for (s := s2) (evi_rng1 (n := 6) (bor_E rfl rfl rfl) (by decide)) hf rfl) ?_
  exact exs_cons (ex_for (s := s4') (evi_of (bor_lk rfl) rfl) hf2 rfl) rfl
end Law

end
section
set_option Elab.async false
set_option linter.all false
set_option maxRecDepth 100000
set_option maxHeartbeats 40000000
namespace Law
open PySem Pi Lib
theorem hand_ok (st : Sto) : go 30 22 [] st = some (.d (.bool true), st) := by kernel_rfl
end Law

end
section
set_option Elab.async false
set_option linter.all false
set_option maxRecDepth 100000
set_option maxHeartbeats 4000000
namespace Law
open PySem Pi Lib
theorem right_ok (k q n : Nat) (hq : q < 2 ^ 30) (st : Sto) (hb : BoxOk q st n) : ∃ st', go (k + 11) 23 [.rf n] st = some (.d (.bool true), st') ∧ scalS st' = true := by
  obtain ⟨e2, s2, hf, x1, x2, x3, x4, x5, x6, x7, x8, x9, x10, x11, he, hb2⟩ := forL_ind (bd := bindT (.n 1)) (body := fun e1 s1 => execs gld (run gld fns 100000 (k + 10)) 100000 turnB e1 s1) (fun i : Nat => PyData.int ((i : Nat) : Int)) (ys := List.range 12)
    (fun pre env s => ∃ x1 x2 x3 x4 x5 x6 x7 x8 x9 x10 x11, env = cE n x1 x2 x3 x4 x5 x6 x7 x8 x9 x10 x11 ∧ BoxOk (q + 200 * pre.length) s n)
    (fun pre i post env s e ⟨x1, x2, x3, x4, x5, x6, x7, x8, x9, x10, x11, he, hb⟩ => by
      subst he
      have hlen := congrArg List.length e
      rw [List.length_range, List.length_append, List.length_cons] at hlen
      obtain ⟨y2, y3, y4, y5, y6, y7, y8, y9, y10, y11, s', t1, t2, t3⟩ := turn_ok k (q + 200 * pre.length) n (by omega) s hb (.sh (.int ((i : Nat) : Int))) x2 x3 x4 x5 x6 x7 x8 x9 x10 x11
      refine ⟨cE n (.sh (.int ((i : Nat) : Int))) x2 x3 x4 x5 x6 x7 x8 x9 x10 x11, cE n (.sh (.int ((i : Nat) : Int))) y2 y3 y4 y5 y6 y7 y8 y9 y10 y11, s', rfl, t1, .sh (.int ((i : Nat) : Int)), y2, y3, y4, y5, y6, y7, y8, y9, y10, y11, rfl, t2.mono ?_⟩
      rw [List.length_append, List.length_singleton]; omega)
    (List.range 12) [] (cE n .no .no .no .no .no .no .no .no .no .no .no) st rfl ⟨.no, .no, .no, .no, .no, .no, .no, .no, .no, .no, .no, rfl, hb⟩
  refine ⟨s2, ?_, hb2.scal⟩
  subst he
  show out (execs gld (run gld fns 100000 (k + 10)) 100000 (.cons (.for' (.n 1) (.rng1 (.int 12)) turnB) (.cons (.ret (.bl true)) .nil)) (cE n .no .no .no .no .no .no .no .no .no .no .no) st) = _
  exact o_cons (ex_for (s := st) (evi_rng1 (n := 12) (bor_E rfl rfl rfl) (by decide)) hf rfl) (o_ret rfl)
theorem right : ∀ ns : List Int, ns.length ≤ 63 → ∃ st, run gld fns 100000 100 24 [.d (.list (ns.map .int))] [] = some (.d (.bool true), st) := fun ns hn => by
  obtain ⟨cs, c1, c2, c3⟩ := cells_body (gl := gld) (cf := run gld fns 100000 98) (W := 100000) ns 3 (by decide) (by decide) []
  have hc : run gld fns 100000 99 14 [.d (.list (ns.map .int)), .d (.int 3)] [] = some (.fr (.list (cs.map .int)), []) := c3
  obtain ⟨s2, h1, h2⟩ := all_true (gl := gld) (cf := run gld fns 100000 99) (vs := [2]) (e := .call 23 (.cons (.call 12 (.cons (.v 1) (.cons (.v 2) .nil))) .nil)) (t := .n 2) (it := .rng1 (.f1 .len (.v 1))) (c := .no) (env := [.sh (.list (ns.map .int)), .sh (.list (cs.map .int)), .no]) (st := []) (s := [])
    (xs := (List.range cs.length).map fun i => .int ((i : Nat) : Int)) (fun _ s => scalS s = true)
    (evi_rng1 (bor_E rfl (ev_f1 (bor_sh rfl) (show some (Vl.d (.int ((cs.map PyData.int).length : Nat))) = _ by rw [List.length_map])) rfl) (Nat.le_trans c2 (by decide))) rfl (fun pre x post s e hs => by
      have hlen := congrArg List.length e
      rw [List.length_map, List.length_range, List.length_append, List.length_cons] at hlen
      have hx : x = .int ((pre.length : Nat) : Int) := by
        have h1 := congrArg (fun l => l[pre.length]?) e
        simp only [List.getElem?_append_right (Nat.le_refl _), Nat.sub_self, List.getElem?_cons_zero, List.getElem?_map, List.getElem?_range (show pre.length < cs.length by omega)] at h1
        exact (Option.some.inj h1).symm
      subst hx
      obtain ⟨a, b, hbx⟩ := box_body (gl := gld) (cf := run gld fns 100000 98) (W := 100000) 93341 cs pre.length (by omega) s
      have hbx : run gld fns 100000 99 12 [.d (.list (cs.map .int)), .d (.int (pre.length : Nat))] s = some (.rf s.length, s ++ [[.int a, .int b, .int 0]]) := hbx
      obtain ⟨s3, r1, r2⟩ := right_ok 88 0 s.length (by decide) (s ++ [[.int a, .int b, .int 0]]) (box_new hs)
      have r1 : run gld fns 100000 99 23 [.rf s.length] (s ++ [[.int a, .int b, .int 0]]) = some (.d (.bool true), s3) := r1
      exact ⟨[.sh (.list (ns.map .int)), .sh (.list (cs.map .int)), .sh (.int (pre.length : Nat))], s3, rfl, rfl, toD_E (ev_call (eva_cons (ev_call (eva_cons (ev_sh rfl) (eva_cons (ev_sh rfl) eva_nil)) hbx) eva_nil) r1) rfl, r2⟩) (by rw [List.length_map, List.length_range]; exact Nat.le_trans c2 (by decide))
  refine ⟨s2, ?_⟩
  show out (execs gld (run gld fns 100000 99) 100000 b24 [.sh (.list (ns.map .int)), .no, .no] []) = _
  refine o_iteF (s := []) (tru_E (x := .bool false) (bor_E rfl (ev_not (k := true) (x := .bool true) (bor_E rfl (ev_call eva_nil (run_mono (by decide : 30 ≤ 99) _ _ _ _ (hand_ok []))) rfl) rfl) rfl) rfl) ?_
  refine o_asg (x := .list (cs.map .int)) (s1 := []) (toD_E (ev_call (eva_cons (ev_sh rfl) (eva_cons ev_int eva_nil)) hc) rfl) rfl ?_
  exact o_ret h1
end Law

end
set_option Elab.async false
set_option linter.all false
set_option maxRecDepth 100000
open PySem PySem.W PyProof.Rows
set_option maxHeartbeats 0 in
theorem PySem.Challenge.cw_splitrules_k41_vectors_told_holds : PySem.Challenge.rw_splitrules_k41_vectors_told.Holds := by
  w_on; o_law; k_head; (case hw => w_witness2)
  k_fill
  refine L2.walk_of (l := PySem.Challenge.rw_splitrules_k41_vectors_told) (n := 63) (k := 100) (x := "_law_script") (CX := fun _ => L2.CX0) (sp := fun w => (fun vs H Q _ => ∃ (a : Addr) (ns : List Int), vs = [.ref a] ∧ L2.SqL _ H a (ns.map L2.V.int) ∧ ns.length ≤ 63 ∧ ∀ H', Q (.bl true) H')) rfl (by decide) rfl ⟨rfl, by decide, by decide⟩ (fun w h Y => PySem.W.kIn_of Y) ?F (fun _ _ a ns hl _ hS => ⟨a, ns, rfl, hS, hl, fun _ => rfl⟩) (fun _ _ _ _ _ h => h)
  case F =>
    intro w mg fa h KX G hmg
    refine' Law.all_mk Law.right KX G hmg ?a0 ?l0 ?d0 ?k0 ?a1 ?l1 ?d1 ?k1 ?a2 ?l2 ?d2 ?k2 ?a3 ?l3 ?d3 ?k3 ?a4 ?l4 ?d4 ?k4 ?a5 ?l5 ?d5 ?k5 ?a6 ?l6 ?d6 ?k6 ?a7 ?l7 ?d7 ?k7 ?a8 ?l8 ?d8 ?k8 ?a9 ?l9 ?d9 ?k9 ?a10 ?l10 ?d10 ?k10 ?a11 ?l11 ?d11 ?k11 ?a12 ?l12 ?d12 ?k12 ?a13 ?l13 ?d13 ?k13 ?a14 ?l14 ?d14 ?k14 ?a15 ?l15 ?d15 ?k15 ?a16 ?l16 ?d16 ?k16 ?a17 ?l17 ?d17 ?k17 ?a18 ?l18 ?d18 ?k18 ?a19 ?l19 ?d19 ?k19 ?a20 ?l20 ?d20 ?k20 ?a21 ?l21 ?d21 ?k21 ?a22 ?l22 ?d22 ?k22 ?a23 ?l23 ?d23 ?k23 ?a24 ?l24 ?d24 ?k24 ?z0 ?z1 ?z2 ?z3 ?z4 ?z5 ?z6 ?z7 ?z8 ?z9 ?z10 ?z11 ?z12 ?z13 ?z14 ?z15 ?z16 ?z17
    (case a0 => k_is)
    (case l0 => k_is)
    (case d0 => k_is)
    (case k0 => k_is)
    (case a1 => k_is)
    (case l1 => k_is)
    (case d1 => k_is)
    (case k1 => k_is)
    (case a2 => k_is)
    (case l2 => k_is)
    (case d2 => k_is)
    (case k2 => k_is)
    (case a3 => k_is)
    (case l3 => k_is)
    (case d3 => k_is)
    (case k3 => k_is)
    (case a4 => k_is)
    (case l4 => k_is)
    (case d4 => k_is)
    (case k4 => k_is)
    (case a5 => k_is)
    (case l5 => k_is)
    (case d5 => k_is)
    (case k5 => k_is)
    (case a6 => k_is)
    (case l6 => k_is)
    (case d6 => k_is)
    (case k6 => k_is)
    (case a7 => k_is)
    (case l7 => k_is)
    (case d7 => k_is)
    (case k7 => k_is)
    (case a8 => k_is)
    (case l8 => k_is)
    (case d8 => k_is)
    (case k8 => k_is)
    (case a9 => k_is)
    (case l9 => k_is)
    (case d9 => k_is)
    (case k9 => k_is)
    (case a10 => k_is)
    (case l10 => k_is)
    (case d10 => k_is)
    (case k10 => k_is)
    (case a11 => k_is)
    (case l11 => k_is)
    (case d11 => k_is)
    (case k11 => k_is)
    (case a12 => k_is)
    (case l12 => k_is)
    (case d12 => k_is)
    (case k12 => k_is)
    (case a13 => k_is)
    (case l13 => k_is)
    (case d13 => k_is)
    (case k13 => k_is)
    (case a14 => k_is)
    (case l14 => k_is)
    (case d14 => k_is)
    (case k14 => k_is)
    (case a15 => k_is)
    (case l15 => k_is)
    (case d15 => k_is)
    (case k15 => k_is)
    (case a16 => k_is)
    (case l16 => k_is)
    (case d16 => k_is)
    (case k16 => k_is)
    (case a17 => k_is)
    (case l17 => k_is)
    (case d17 => k_is)
    (case k17 => k_is)
    (case a18 => k_is)
    (case l18 => k_is)
    (case d18 => k_is)
    (case k18 => k_is)
    (case a19 => k_is)
    (case l19 => k_is)
    (case d19 => k_is)
    (case k19 => k_is)
    (case a20 => k_is)
    (case l20 => k_is)
    (case d20 => k_is)
    (case k20 => k_is)
    (case a21 => k_is)
    (case l21 => k_is)
    (case d21 => k_is)
    (case k21 => k_is)
    (case a22 => k_is)
    (case l22 => k_is)
    (case d22 => k_is)
    (case k22 => k_is)
    (case a23 => k_is)
    (case l23 => k_is)
    (case d23 => k_is)
    (case k23 => k_is)
    (case a24 => k_is)
    (case l24 => k_is)
    (case d24 => k_is)
    (case k24 => k_is)
    (case z0 => k_is)
    (case z1 => k_is)
    (case z2 => k_is)
    (case z3 => k_is)
    (case z4 => k_is)
    (case z5 => k_is)
    (case z6 => k_is)
    (case z7 => k_is)
    (case z8 => k_is)
    (case z9 => k_is)
    (case z10 => k_is)
    (case z11 => k_is)
    (case z12 => k_is)
    (case z13 => k_is)
    (case z14 => k_is)
    (case z15 => k_is)
    (case z16 => k_is)
    (case z17 => k_is)
