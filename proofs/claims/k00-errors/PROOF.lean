import PyProof.Rows.All
import Wide.All
import OpenK.AllK
import Wide.FinOn
import HandS.Zip
import HandS.TupMul
import KE.GoesMore
import HandS.TupAny
import HandS.Conv
import KE.KDictZip
import HandS.Dict
import KE.DatumOrd
import KE.KTupSum
import HandS.List
import KE.SortData
import KE.KDictDisplayH
import KE.KDictCopyH
import HandS.DictTup
import HandS.ExcField
import HandS.ExcCtx
import HandS.ExcIs
import KE.KExcIs
import HandS.ExcInit
import HandS.Codes
import HandS.Words
import HandS.WordsExc
import HandS.Hot
import HandS.DictComp
import HandS.Iter
import PyProof.DictMoreH
import KE.KDictWalk
import KE.KDictExact
import KE.KDictItemsList
import KE.KItemsList
import KE.GoesEnum
import HandS.ForMost
import HandS.Wide
import HandS.Flow
import HandS.Walk
import HandS.IsInst
import HandS.Style
import KE.DataCmp
import KE.DataEq
import HandS.Text
import HandS.TupSets
import HandS.SetFor
import PyProof.WalksMore
import PyProof.FactsAll.subtypes_4
import PyProof.Rows.RowHeap
import PyProof.Transfer
import HandS.Sort
import HandS.Strs
import HandS.Deep
import HandS.WideBits
import HandS.SortKw
import HandS.StrMore
import HandS.TryOnly
import HandS.SetKeys
import HandS.Star
import PyProof.Rows.Walk
import PyProof.Rows.RegReprOcc
import PySem.Challenge.RW_splitrules_k00_errors
import PyProof.TableCode
section
set_option linter.all false
namespace Pi
def kB : Bool := true
def kA : Bool := false
end Pi

end
section
set_option Elab.async false
set_option linter.all false
set_option maxRecDepth 100000
set_option maxHeartbeats 1000000
namespace Pi
open PySem PySem.Spec PyProof.Rows L2
def isStrV : V → Bool
  | .str _ => true
  | _ => false
def isRefV : V → Bool
  | .ref _ => true
  | _ => false
def looseV (xs : List V) : Bool := !kB || !(xs.all isStrV || (kA && xs.all isRefV))
def tuO (o : Obj) (xs : List V) : HO := if looseV xs = true then .tup xs else .frz o (.tup xs)
theorem tuO_ok {P : Program} {w : World} {H : Hp} {h : Heap} {a : Addr} {o : Obj} {xs : List V} (h1 : h.get? a = some o) (h2 : ObjOk P w H h a (.tup xs)) : ObjOk P w H h a (tuO o xs) := by
  unfold tuO
  split
  · exact h2
  · exact ⟨h1, h2⟩
theorem tuO_rd {H : Hp} {a : Addr} {o : Obj} {xs : List V} (h : H a = some (tuO o xs)) : Rd H a (.tup xs) := by
  unfold tuO at h
  split at h
  · exact .inl h
  · exact .inr ⟨o, h⟩
end Pi
namespace Pk
open PySem PySem.Spec PyProof.Rows L2 Pi
def SqG (K : PySem.W.Frag) (p : Bool) (H : Hp) (a : Addr) (xs : List V) : Prop := match p with
  | true => SqT K H a xs
  | false => SqL K H a xs
def AtG (p : Bool) (h : Heap) (a : Addr) (its : Array Value) : Prop := match p with
  | true => h.IsTuple a its
  | false => h.IsList a its
def ItG (p : Bool) (h : Heap) (it a : Addr) (i : Nat) : Prop := match p with
  | true => h.IsTupleIter it a i
  | false => h.IsListIter it a i
def itO (p : Bool) (a : Addr) : Obj := match p with
  | true => { cls := .type "tuple_iterator", data := .fields #[.ref a, .int 0 0] }
  | false => { cls := .type "list_iterator", data := .fields #[.ref a, .int 0 0] }
theorem drawsG {prog : Program} {w : World} {A : Around} (hh : A.handled = none) (p : Bool) (it a : Addr) (hne : a ≠ it) (items : Array Value) : Draws prog w A it [it, a] items.size (fun i v => items[i]? = some v) (fun i h => ItG p h it a i ∧ AtG p h a items) := by
  cases p with
  | true => exact Draws.tuple hh it a hne items
  | false => exact Draws.list hh it a hne items
theorem beginsG (p : Bool) (a : Addr) (items : Array Value) : Begins (.ref a) (itO p a) fun h => AtG p h a items := by
  cases p with
  | true => exact begins_tuple a items
  | false => exact begins_list a items
theorem ItG.keep {p : Bool} {h h' : Heap} {it a : Addr} {i : Nat} (q : ItG p h it a i) (k : ∀ o, h.get? it = some o → h'.get? it = some o) : ItG p h' it a i := by
  cases p with
  | true => exact Heap.IsTupleIter.at q k
  | false => exact Heap.IsListIter.at q k
theorem ItG.there {p : Bool} {h : Heap} {it a : Addr} {i : Nat} (q : ItG p h it a i) : ∃ o vs, h.get? it = some o ∧ o.data = .fields vs := by
  cases p with
  | true => obtain ⟨o, e, _, d⟩ := q; exact ⟨o, _, e, d⟩
  | false => obtain ⟨o, e, _, d⟩ := q; exact ⟨o, _, e, d⟩
theorem ItG.new {p : Bool} {h : Heap} {it a : Addr} (e : h.get? it = some (itO p a)) : ItG p h it a 0 := by
  cases p with
  | true => exact ⟨_, e, rfl, rfl⟩
  | false => exact ⟨_, e, rfl, rfl⟩
section
variable {X : Cx} {pins : List (Addr × Obj)} {σ : L2.St} {H : Hp} {s : Shared} {a : Addr} {xs ys : List V} {p : Bool}
theorem inv_sq (I : Inv X pins σ H s) (h : SqG X.K p H a xs) : ∃ its : List Value, Vals xs its ∧ AtG p s.heap a its.toArray ∧ a < s.heap.objs.size := by
  cases p with
  | true =>
    obtain ⟨its, r, q, _⟩ := I.tuple h
    obtain ⟨o, e, _⟩ := id q
    exact ⟨its, r, q, Heap.lt_size e⟩
  | false =>
    obtain ⟨its, r, q, _⟩ := I.list h
    exact ⟨its, r, q.isList, q.lt⟩
theorem inv_inj (I : Inv X pins σ H s) (h : SqG X.K p H a xs) (h' : SqG X.K p H a ys) : xs = ys := by
  cases p with
  | true => exact I.tuple_inj h h'
  | false => exact I.list_inj h h'
end
structure Sep (z TI TO i1 i2 a b : Addr) : Prop where
  s : ZipSep2 z TI TO i1 i2 [i1, a] [i2, b]
  n1 : a ≠ i1
  n2 : b ≠ i2
theorem ne_adr {i j : Nat} (h : i ≠ j) : @Ne Addr i j := h
theorem nm_adr {c x y : Nat} (h : c ≠ x) (h' : c ≠ y) : ¬ @List.Mem Addr c [x, y] := fun z => match z with
  | .head _ => h rfl
  | .tail _ (.head _) => h' rfl
theorem sep_new {n a b : Nat} (ha : a < n) (hb : b < n) : Sep (n + 4) (n + 2) (n + 3) n (n + 1) a b :=
  ⟨⟨ne_adr (by omega), ne_adr (by omega), ne_adr (by omega), ne_adr (by omega), .head _, nm_adr (by omega) (by omega), nm_adr (by omega) (by omega), ne_adr (by omega), .head _, nm_adr (by omega) (by omega), nm_adr (by omega) (by omega), nm_adr (by omega) (by omega), nm_adr (by omega) (by omega)⟩, Nat.ne_of_lt ha, ne_adr (by omega)⟩
def YPairK (xs ys : Nat → Option V) : Nat → Hp → V → Hp → Prop := fun i H v H' => ∃ T x y o, v = .ref T ∧ H T = none ∧ o.dict = none ∧ H' = upd H T (tuO o [x, y]) ∧ xs i = some x ∧ ys i = some y
def ItzG (K : PySem.W.Frag) (p q : Bool) (a b : Addr) : It :=
  ⟨fun i H => ∃ (xs ys : List V) (x y : V), SqG K p H a xs ∧ SqG K q H b ys ∧ xs[i]? = some x ∧ ys[i]? = some y,
    fun i H v H' => ∃ T x y o, v = .ref T ∧ H T = none ∧ o.dict = none ∧ H' = upd H T (tuO o [x, y]) ∧ (∀ xs, SqG K p H a xs → xs[i]? = some x) ∧ ∀ ys, SqG K q H b ys → ys[i]? = some y,
    fun i H => ∃ xs ys : List V, SqG K p H a xs ∧ SqG K q H b ys ∧ i = min xs.length ys.length⟩
theorem turn_zipG {P : Program} {w : World} {K : PySem.W.Frag} {elts : List Expr} {kk : Nat} {tpos : Pos} {p q : Bool} {a b z TI TO i1 i2 : Addr} (D : Sep z TI TO i1 i2 a b) :
    Turn P w K (.Tuple elts kk tpos) (ItzG K p q a b) [z, TI, TO, i1, i2] z (fun i h => IsZip h z TI TO .none ∧ IsPair h TI (.ref i1) (.ref i2) ∧ (∃ x y, IsPair h TO x y) ∧ ItG p h i1 a i ∧ ItG q h i2 b i) where
  mem := List.mem_cons_self
  obj := fun i h st c hc => by
    obtain ⟨hz, hTI, ⟨x, y, hTO⟩, h1, h2⟩ := st
    simp only [List.mem_cons, List.not_mem_nil, or_false] at hc
    obtain ⟨o1, v1, e1, d1⟩ := h1.there
    obtain ⟨o2, v2, e2, d2⟩ := h2.there
    rcases hc with rfl | rfl | rfl | rfl | rfl
    · exact ⟨_, hz, fun _ z => nomatch z⟩
    · exact ⟨_, hTI, fun _ z => nomatch z⟩
    · exact ⟨_, hTO, fun _ z => nomatch z⟩
    · exact ⟨o1, e1, fun v z => by rw [d1] at z; cases z⟩
    · exact ⟨o2, e2, fun v z => by rw [d2] at z; cases z⟩
  keep := fun i h h' ⟨hz, hTI, ⟨x, y, hTO⟩, h1, h2⟩ k =>
    ⟨k z (by simp) _ hz, k TI (by simp) _ hTI, ⟨x, y, k TO (by simp) _ hTO⟩, h1.keep fun o => k i1 (by simp) o, h2.keep fun o => k i2 (by simp) o⟩
  item := by
    intro X hP hw hK hc i pins s σ H E I hf st hg
    subst hP hw hK
    obtain ⟨hz, hTI, ⟨x0, y0, hTO⟩, h1, h2⟩ := st
    obtain ⟨xs, ys, x, y, hqx, hqy, hx, hy⟩ := hg
    obtain ⟨us, rx, px, lx⟩ := inv_sq I hqx
    obtain ⟨vs, ry, py, ly⟩ := inv_sq I hqy
    obtain ⟨u, hu, ru⟩ := rx.get hx
    obtain ⟨v, hv, rv⟩ := ry.get hy
    have hu' : us.toArray[i]? = some u := by simpa using hu
    have hv' : vs.toArray[i]? = some v := by simpa using hv
    have hh : X.A.in1.handled = none := I.ok.hd hc
    refine wpAny_pyNext_zipD2_item D.s (drawsG hh p i1 a D.n1 us.toArray) (drawsG hh q i2 b D.n2 vs.toArray) hz hTI hTO ⟨h1, px⟩ ⟨h2, py⟩ (Array.getElem?_eq_some_iff.mp hu').1 (Array.getElem?_eq_some_iff.mp hv').1 fun x1 x2 h' tk e1 e2 z1 TO1 st1 st2 hT hsz hk => ?_
    obtain rfl : u = x1 := Option.some.inj (hu'.symm.trans e1)
    obtain rfl : v = x2 := Option.some.inj (hv'.symm.trans e2)
    have lt : ∀ c, c ∈ [z, TI, TO, i1, i2] → c < s.heap.objs.size := fun c hcm => by
      obtain ⟨_, _, f1, _⟩ := h1.there
      obtain ⟨_, _, f2, _⟩ := h2.there
      simp only [List.mem_cons, List.not_mem_nil, or_false] at hcm
      rcases hcm with rfl | rfl | rfl | rfl | rfl
      · exact Heap.lt_size hz
      · exact Heap.lt_size hTI
      · exact Heap.lt_size hTO
      · exact Heap.lt_size f1
      · exact Heap.lt_size f2
    refine ⟨_, rfl, wpAny_letOwnedTupleGo_zip (s := { s with heap := h', toks := tk }) z1 fun h2' z2 sb => ?_⟩
    have hT2 : h2'.get? s.heap.objs.size = some { cls := .type "tuple", data := .seq #[u, v] } := (sb.2 _ (Nat.ne_of_gt (lt z (by simp)))).trans hT
    have fr : ∀ c o, c ≠ z → h'.get? c = some o → h2'.get? c = some o := fun c o n e => (sb.2 c n).trans e
    have I1 : Inv X pins σ (upd H s.heap.objs.size (tuO { cls := .type "tuple", data := .seq #[u, v] } [x, y])) { s with heap := h2', toks := tk } :=
      I.turnedNew (ch := [z, TI, TO, i1, i2]) (fun c o hb e => by
        simp only [List.mem_cons, List.not_mem_nil, or_false, not_or] at hb
        exact fr c o hb.1 (hk c o hb.1 hb.2.2.1 hb.2.2.2.1 hb.2.2.2.2 e)) hf (Nat.le_refl _) (tuO_ok hT2 ⟨by show 2 ≤ sizeLine; decide, [u, v], .cons ru (.cons rv .nil), ⟨_, hT2, rfl, _, rfl⟩⟩)
    have n1z : i1 ≠ z := D.s.zi1.symm
    have n2z : i2 ≠ z := D.s.zi2.symm
    refine ⟨.ref s.heap.objs.size, _, I1, rfl, ⟨_, x, y, _, rfl, I.hok.fresh (Nat.le_refl _), rfl, rfl, fun l hl => by rw [inv_inj I hl hqx]; exact hx, fun l hl => by rw [inv_inj I hl hqy]; exact hy⟩,
      ⟨z2, fr _ _ D.s.TIz (hk TI _ D.s.TIz D.s.TITO D.s.TIi1 D.s.TIi2 hTI), ⟨u, v, fr _ _ D.s.TOz TO1⟩, st1.1.keep fun o => fr i1 o n1z, st2.1.keep fun o => fr i2 o n2z⟩, fun c hcm => ?_⟩
    rw [upd_ne (Nat.ne_of_lt (lt c hcm))]
    exact (hf c hcm).1
  done := by
    intro X hP hw hK hc i pins s σ H E I hf st hg
    subst hP hw hK
    obtain ⟨hz, hTI, ⟨x0, y0, hTO⟩, h1, h2⟩ := st
    obtain ⟨xs, ys, hqx, hqy, hend⟩ := hg
    obtain ⟨us, rx, px, lx⟩ := inv_sq I hqx
    obtain ⟨vs, ry, py, ly⟩ := inv_sq I hqy
    have e1 : us.toArray.size = xs.length := by rw [List.size_toArray, rx.length]
    have e2 : vs.toArray.size = ys.length := by rw [List.size_toArray, ry.length]
    have hh : X.A.in1.handled = none := I.ok.hd hc
    exact wpAny_pyNext_zipD2_end D.s (drawsG hh p i1 a D.n1 us.toArray) (drawsG hh q i2 b D.n2 vs.toArray) hz hTI hTO ⟨h1, px⟩ ⟨h2, py⟩ (by omega) (by omega) (by omega) fun h' tk hk => ⟨rfl, I.turnedL (t' := tk) (ch := [z, TI, TO, i1, i2]) (fun c o hb e => by
      simp only [List.mem_cons, List.not_mem_nil, or_false, not_or] at hb
      exact hk c o hb.1 hb.2.2.1 hb.2.2.2.1 hb.2.2.2.2 e) hf⟩
  self := fun A i s Q E st h => wpAny_pyIter_zip st.1 h
def iZipG (K : PySem.W.Frag) (ta : TA) : TI := fun σ H R => ta σ H fun vs H1 => ∃ p q a b xs ys, vs = [.ref a, .ref b] ∧ SqG K p H1 a xs ∧ SqG K q H1 b ys ∧ R (ItzG K p q a b) H1
theorem pi_zipG {X : Cx} {e e2 : Expr} {ta : TA} {p pos tpos : Pos} {elts : List Expr} {kk : Nat} (hg : Gl X "zip") (hm : X.mg "zip" = none) (ha : PA X [e, e2] ta)
    (hs : starEach [e, e2] X.env = (false, eval e X.env) :: starEach [e2] X.env := by rfl) (hpl : (backTo pos (starEach [e2] X.env)).any (·.1) = false := by rfl) :
    PI X (.Tuple elts kk tpos) (.Call (.Name "zip" p) [e, e2] [] pos) (iZipG X.K ta) := by
  constructor
  intro pins s σ H R I h
  refine Call_ (ld_blt I hg hm PyProof.Rows.boot_zip (PyProof.Rows.callWith_type1 (thn (ha.run pos pins s σ H _ I h) ?_) hs hpl))
  rintro us s1 ⟨vs, H1, I1, r1, f, g, a, b, xs, ys, rfl, hqx, hqy, q⟩
  cases r1 with
  | cons ru rr =>
    cases rr with
    | cons rv rr =>
      cases rr
      cases ru
      cases rv
      obtain ⟨us, rx, px, lx⟩ := inv_sq I1 hqx
      obtain ⟨vs, ry, py, ly⟩ := inv_sq I1 hqy
      refine zip_begins2 (s := s1) (beginsG f a us.toArray) (beginsG g b vs.toArray) px py ?_
      intro h' hz hTI hTO h1 h2 hsz hk
      refine wpAny_pyIter_zip hz ?_
      refine ⟨s1.heap.objs.size + 4, [s1.heap.objs.size + 4, s1.heap.objs.size + 2, s1.heap.objs.size + 3, s1.heap.objs.size, s1.heap.objs.size + 1], _, _, H1, rfl, I1.kept (t' := s1.toks) hk,
        turn_zipG (p := f) (q := g) (a := a) (b := b) (sep_new lx ly), ⟨hz, hTI, ⟨_, _, hTO⟩, .new h1, .new h2⟩, ?_, q⟩
      intro c hcm
      have hle : s1.heap.objs.size ≤ c := by
        simp only [List.mem_cons, List.not_mem_nil, or_false] at hcm
        rcases hcm with rfl | rfl | rfl | rfl | rfl
        · exact Nat.le_add_right _ _
        · exact Nat.le_add_right _ _
        · exact Nat.le_add_right _ _
        · exact Nat.le_refl _
        · exact Nat.le_add_right _ _
      exact I1.fpOk hle (I1.hok.fresh hle)
def IteG (K : PySem.W.Frag) (p : Bool) (a : Addr) : It :=
  ⟨fun i H => ∃ (xs : List V) (x : V), SqG K p H a xs ∧ xs[i]? = some x, fun i H v H' => ∃ T x o, v = .ref T ∧ H T = none ∧ o.dict = none ∧ H' = upd H T (tuO o [.int (i : Nat), x]) ∧ ∀ xs, SqG K p H a xs → xs[i]? = some x, fun i H => ∃ xs : List V, SqG K p H a xs ∧ i = xs.length⟩
theorem turn_enumG {P : Program} {w : World} {K : PySem.W.Frag} {elts : List Expr} {kk : Nat} {tpos : Pos} {p : Bool} {a e it : Addr} (hne : e ≠ it) (hea : e ≠ a) (hia : a ≠ it) :
    Turn P w K (.Tuple elts kk tpos) (IteG K p a) [e, it] e (fun i h => (∃ old, IsEnum h e it ((i : Nat) : Int) old) ∧ ItG p h it a i) where
  mem := List.mem_cons_self
  obj := fun i h ⟨⟨old, he⟩, h1⟩ b hb => by
    obtain ⟨o1, v1, e1, d1⟩ := h1.there
    simp only [List.mem_cons, List.not_mem_nil, or_false] at hb
    rcases hb with rfl | rfl
    · exact ⟨_, he, fun _ z => nomatch z⟩
    · exact ⟨o1, e1, fun v z => by rw [d1] at z; cases z⟩
  keep := fun i h h' ⟨⟨old, he⟩, h1⟩ k => ⟨⟨old, k e (by simp) _ he⟩, h1.keep fun o => k it (by simp) o⟩
  item := by
    intro X hP hw hK hc i pins s σ H E I hf st hg
    subst hP hw hK
    obtain ⟨⟨old, he⟩, h1⟩ := st
    obtain ⟨xs, x, hq, hx⟩ := hg
    obtain ⟨us, rx, px, lx⟩ := inv_sq I hq
    obtain ⟨u, hu, ru⟩ := rx.get hx
    have hu' : us.toArray[i]? = some u := by simpa using hu
    have hh : X.A.in1.handled = none := I.ok.hd hc
    have hel : e < s.heap.objs.size := Heap.lt_size he
    have hil : it < s.heap.objs.size := by obtain ⟨_, _, z, _⟩ := h1.there; exact Heap.lt_size z
    refine wpAny_pyNext_enum_itemD (drawsG hh p it a hia us.toArray) he ⟨h1, px⟩ (Array.getElem?_eq_some_iff.mp hu').1 hne (by simp; exact ⟨hne, hea⟩) fun x1 h' tk e1 ho st1 hT hsz hk => ?_
    obtain rfl : u = x1 := Option.some.inj (hu'.symm.trans e1)
    refine ⟨_, rfl, wpAny_letOwnedTupleGo_enum (s := { s with heap := h', toks := tk + 1 }) ho fun h2' he2 sb => ?_⟩
    have hT2 : h2'.get? s.heap.objs.size = some { cls := .type "tuple", data := .seq #[.int i tk, u] } := (sb.2 _ (Nat.ne_of_gt hel)).trans hT
    have I1 : Inv X pins σ (upd H s.heap.objs.size (tuO { cls := .type "tuple", data := .seq #[.int i tk, u] } [.int (i : Nat), x])) { s with heap := h2', toks := tk + 1 } :=
      I.turnedNew (ch := [e, it]) (fun c o hb z => by
        simp only [List.mem_cons, List.not_mem_nil, or_false, not_or] at hb
        exact (sb.2 c hb.1).trans (hk c o hb.1 hb.2 z)) hf (Nat.le_refl _) (tuO_ok hT2 ⟨by show 2 ≤ sizeLine; decide, [.int i tk, u], .cons ⟨_, rfl⟩ (.cons ru .nil), ⟨_, hT2, rfl, _, rfl⟩⟩)
    refine ⟨.ref s.heap.objs.size, _, I1, rfl, ⟨_, x, _, rfl, I.hok.fresh (Nat.le_refl _), rfl, rfl, fun l hl => by rw [inv_inj I hl hq]; exact hx⟩, ⟨⟨u, ?_⟩, st1.1.keep fun o z => (sb.2 it (Ne.symm hne)).trans z⟩, fun c hcm => ?_⟩
    · rw [show ((i + 1 : Nat) : Int) = (i : Int) + 1 by omega]
      exact he2
    · have hlt : c < s.heap.objs.size := by
        simp only [List.mem_cons, List.not_mem_nil, or_false] at hcm
        rcases hcm with rfl | rfl
        · exact hel
        · exact hil
      rw [upd_ne (Nat.ne_of_lt hlt)]
      exact (hf c hcm).1
  done := by
    intro X hP hw hK hc i pins s σ H E I hf st hg
    subst hP hw hK
    obtain ⟨⟨old, he⟩, h1⟩ := st
    obtain ⟨xs, hq, hx⟩ := hg
    obtain ⟨us, rx, px, lx⟩ := inv_sq I hq
    have e1 : us.toArray.size = i := by rw [List.size_toArray, ← rx.length]; exact hx.symm
    have hh : X.A.in1.handled = none := I.ok.hd hc
    obtain ⟨f0, f1, f2, f3, f4, f5⟩ := hf it (by simp)
    exact wpAny_pyNext_enum_endD (drawsG hh p it a hia us.toArray) he (by rw [e1]; exact ⟨h1, px⟩) fun h' eb => ⟨rfl, I.turned (t' := s.toks) (fun b o hb z => eb b o hb z) f0 f1 f3 f4 f5⟩
  self := fun A i s Q E ⟨⟨_, he⟩, _⟩ h => wpAny_pyIter_enum he h
theorem meets_enum1 {v : Value} {o : Obj} {F : Heap → Prop} (B : Begins v o F) :
    Meets (Builtin.«enumerate.__new__» ⟨[.type "enumerate", v], []⟩) (fun _ R s => F s.heap ∧
      R (.ok (.ret (.ref (s.heap.push o).objs.size))) { s with heap := (s.heap.push o).push { cls := .type "enumerate", data := .fields #[.none, .bool false, .ref s.heap.objs.size, rawInt 0, .none, .none] } }) :=
  .of_wp fun prog w A R s ⟨h1, h⟩ => by
    obtain ⟨hp, g, d, tk, os⟩ := s
    have begin_ : ∀ {A' : Around} {E : Value → Shared → Prop} {Q : Value → Shared → Prop}, Q (.ref hp.objs.size) ⟨hp.push o, g, d, tk, os⟩ → wpAny (model prog w) A' (pyIter v) Q E ⟨hp, g, d, tk, os⟩ := fun z => B.iter prog w _ _ ⟨hp, g, d, tk, os⟩ _ h1 z
    have hsub := sub_enumerate
    wp_walk using begin_
    refine wpAny_stack_any fun st => wpAny_pure ?_
    split
    · rename_i c _ _ _ _ _
      cases (c == Value.type "enumerate") <;> (wp_walk using begin_; exact ⟨_, rfl, h⟩)
    · wp_walk using begin_
      exact ⟨_, rfl, h⟩
def iEnumG (K : PySem.W.Frag) (ta : TA) : TI := fun σ H R => ta σ H fun vs H1 => ∃ p a xs, vs = [.ref a] ∧ SqG K p H1 a xs ∧ R (IteG K p a) H1
theorem pi_enumG {X : Cx} {e : Expr} {ta : TA} {p pos tpos : Pos} {elts : List Expr} {kk : Nat} (hg : Gl X "enumerate") (hm : X.mg "enumerate" = none) (ha : PA X [e] ta) (hs : starEach [e] X.env = [(false, eval e X.env)] := by rfl) :
    PI X (.Tuple elts kk tpos) (.Call (.Name "enumerate" p) [e] [] pos) (iEnumG X.K ta) := ⟨fun pins s σ H R I h => by
  refine Call_ (ld_blt I hg hm boot_enumerate (PyProof.Rows.callWith_type1 (thn (ha.run pos pins s σ H _ I h) fun us s1 ⟨vs, H1, I1, r1, f, a, xs, ex, hqx, q⟩ => ?_) hs rfl))
  subst ex
  obtain ⟨u, rfl, ru⟩ : ∃ u, us = [u] ∧ RelV (.ref a) u := match us, r1 with
    | _, .cons r .nil => ⟨_, rfl, r⟩
  obtain rfl : u = Value.ref a := ru
  obtain ⟨us, rx, px, lx⟩ := inv_sq I1 hqx
  have hz : (s1.heap.push (itO f a)).objs.size = s1.heap.objs.size + 1 := Heap.size_push ..
  refine callType_new F.called_enumerate (by decide) (F.typeCall_enumerate_1 _) (F.newCall_enumerate_1 _) (fun obj => F.args_object_init_2 obj _) F.entry_enumerate_new (meets_enum1 (beginsG f a us.toArray)) ⟨px, ?_⟩
  show _ ∧ _
  rw [hz]
  have he := Heap.get?_push_size (s1.heap.push (itO f a)) (o := { cls := .type "enumerate", data := .fields #[.none, .bool false, .ref s1.heap.objs.size, rawInt 0, .none, .none] }) rfl
  rw [hz] at he
  have up : ∀ b o, s1.heap.get? b = some o → ((s1.heap.push (itO f a)).push { cls := .type "enumerate", data := .fields #[.none, .bool false, .ref s1.heap.objs.size, rawInt 0, .none, .none] }).get? b = some o := fun b o z => Heap.get?_push_of_some _ (Heap.get?_push_of_some _ z)
  refine ⟨⟨_, he, rfl⟩, wpAny_pyIter_enum he ⟨s1.heap.objs.size + 1, [s1.heap.objs.size + 1, s1.heap.objs.size], _, _, H1, rfl, I1.kept (t' := s1.toks) up,
    turn_enumG (p := f) (a := a) (ne_adr (by omega)) (ne_adr (Nat.ne_of_gt (Nat.lt_succ_of_lt lx))) (Nat.ne_of_lt lx), ⟨⟨.none, he⟩, .new (Heap.get?_push_of_some _ (Heap.get?_push_size _ (beginsG f a us.toArray).free))⟩, fun c hcm => ?_, q⟩⟩
  have hle : s1.heap.objs.size ≤ c := by
    simp only [List.mem_cons, List.not_mem_nil, or_false] at hcm
    rcases hcm with rfl | rfl
    · exact Nat.le_add_right _ _
    · exact Nat.le_refl _
  exact I1.fpOk hle (I1.hok.fresh hle)⟩
theorem tuple_mul1 (l : Addr) (items : Array Value) (n : Nat) (dd : Option Addr) (sl : Array (Option Value)) (u : Tok) :
    Meets (Builtin.«tuple.__mul__» ⟨[.ref l, .int 1 u], []⟩) (fun _ R s => s.heap.get? l = some { cls := .type "tuple", dict := dd, data := .seq items n, slots := sl } ∧ R (.ok (.ret (Value.ref l))) s) :=
  .of_wp fun prog w A R s ⟨hl, h⟩ => by
    obtain ⟨hp, g, d, tk, os⟩ := s
    have f1 := AutoSeq1.idx_int
    have c1 : (items.isEmpty || (1 : Int) == 1) = true := by simp
    wp_walk using AutoSeq1.wpAny_loadPart' hl
    repeat (first
      | (refine wpAny_ite_true (decide_eq_true c1) ?_; wp_walk using AutoSeq1.wpAny_loadPart' hl)
      | (refine wpAny_ite_true c1 ?_; wp_walk using AutoSeq1.wpAny_loadPart' hl))
    exact ⟨_, rfl, h⟩
def rRepT1 (K : PySem.W.Frag) : R2 := fun x y H Q => ∃ l xs, x = .ref l ∧ y = .int 1 ∧ SqT K H l xs ∧ Q (.ref l) H
theorem op_repT1 {X : Cx} : OpR X (binaryOp .Mult) (rRepT1 X.K) := by
  rintro pins s σ H x y v u Q I rx ry ⟨l, xs, rfl, rfl, hT, q⟩
  obtain rfl : v = Value.ref l := rx
  obtain ⟨t, rfl⟩ := ry
  obtain ⟨its, r, ⟨⟨cls, dd, data, sl⟩, ho, hc, n, hd⟩, hs⟩ := I.tuple hT
  simp only at hc hd
  subst hc hd
  exact wpAny_binaryOp_repeat_ref (T := "tuple") (U := "int") (by decide) ⟨_, ho, rfl⟩ (fun s' => typeIs_int s' 1 t) noFill_tuple_mul F.fills_int_mul F.slot_int_rmul repeat_tuple F.slot_int_index.lookup
    (call_meets F.slot_int_rmul (typeIs_int s 1 t) F.entry_int_rmul (F.args_int_rmul_2 _ _) (int_rmul_tuple 1 t l its.toArray n dd sl)
      ⟨ho, rfl, ⟨_, ho, rfl⟩, call_meets F.slot_tuple_mul ⟨_, ho, rfl⟩ F.entry_tuple_mul (F.args_tuple_mul_2 _ _) (tuple_mul1 l its.toArray n dd sl t) ⟨ho, .ref l, H, I, rfl, q⟩⟩)
end Pk

end
section
set_option Elab.async false
set_option linter.all false
set_option maxRecDepth 100000
set_option maxHeartbeats 1000000
namespace Pk
open PySem PySem.Spec PyProof.Rows L2 Pi
def tob (its : List Value) : Obj := { cls := .type "tuple", data := .seq its.toArray }
def KnQ (H : Hp) (ys : List V) (Q : VK) : Prop := ∀ (p : Addr) (o : Obj), H p = none → o.dict = none → Q (.ref p) (upd H p (tuO o ys))
section
variable {X : Cx} {pins : List (Addr × Obj)} {σ : L2.St} {H : Hp} {s : Shared} {ys : List V} {its : List Value} {Q : VK}
theorem inv_kn (I : Inv X pins σ H s) (hv : Vals ys its) (hz : ys.length ≤ sizeLine) : Inv X pins σ (upd H s.heap.objs.size (tuO (tob its) ys)) { s with heap := s.heap.push (tob its) } :=
  I.laid (o := tuO (tob its) ys) (t' := s.toks) (fun _ _ z => Heap.get?_push_of_some _ z) (Nat.le_refl _) (tuO_ok (Heap.get?_push_size _ rfl) ⟨hz, its, hv, ⟨_, Heap.get?_push_size _ rfl, rfl, _, rfl⟩⟩)
theorem ep_kn (I : Inv X pins σ H s) (hv : Vals ys its) (hz : ys.length ≤ sizeLine) (q : KnQ H ys Q) : EP X pins σ Q (.ref s.heap.objs.size) { s with heap := s.heap.push (tob its) } :=
  ⟨.ref s.heap.objs.size, _, inv_kn I hv hz, rfl, q _ _ (I.hok.fresh (Nat.le_refl _)) rfl⟩
end
section
variable {X : Cx}
def tTupK (t : TA) : TE := fun σ H Q => t σ H fun xs H1 => xs.length ≤ sizeLine ∧ KnQ H1 xs Q
theorem pe_tupK {es : List Expr} {t : TA} {pos : Pos} {k : Nat} (h : PA X es t) : PE X (.Tuple es k pos) (tTupK t) := ⟨fun pins s σ H Q I hq =>
  wpAny_Tuple_spliced (thn (h.run pos pins s σ H _ I hq) fun us s1 ⟨xs, H1, I1, r, z, q⟩ => ⟨r.length ▸ z, ep_kn I1 r z q⟩)⟩
def rTupleK (K : PySem.W.Frag) : List V → Hp → VK → Prop := fun xs H Q => ∃ p ys, xs = [.ref p] ∧ ((SqL K H p ys ∧ KnQ H ys Q) ∨ (SqT K H p ys ∧ Q (.ref p) H))
theorem call_tupleK : CallR X (.type "tuple") (rTupleK X.K) := by
  rintro pins s σ H xs us Q I r ⟨p, ys, rfl, h⟩
  obtain ⟨u, rfl, ru⟩ := vals1 r
  obtain rfl : u = Value.ref p := ru
  rcases h with ⟨hq, q⟩ | ⟨hq, q⟩
  · obtain ⟨its, rv, pl, hz⟩ := I.list hq
    exact call_tuple_list pl.isList (fun h' kp => ep_kn (s := { s with heap := h' }) (I.kept (t' := s.toks) kp) rv hz q) (by rw [List.size_toArray]; exact rv.length ▸ hz)
  · obtain ⟨its, rv, pl, hz⟩ := I.tuple hq
    exact call_tuple_same pl ⟨.ref p, H, I, rfl, q⟩
def rTupleF (K : PySem.W.Frag) : List V → Hp → VK → Prop := fun xs H Q => ∃ p ys, xs = [.ref p] ∧ SqL K H p ys ∧ ∀ (q : Addr) (o : Obj), H q = none → o.dict = none → Q (.ref q) (upd H q (.frz o (.tup ys)))
theorem call_tupleF : CallR X (.type "tuple") (rTupleF X.K) := by
  rintro pins s σ H xs us Q I r ⟨p, ys, rfl, hq, q⟩
  obtain ⟨u, rfl, ru⟩ := vals1 r
  obtain rfl : u = Value.ref p := ru
  obtain ⟨its, rv, pl, hz⟩ := I.list hq
  refine call_tuple_list pl.isList (fun h' kp => ?_) (by rw [List.size_toArray]; exact rv.length ▸ hz)
  have I2 := I.kept (t' := s.toks) kp
  exact ⟨.ref h'.objs.size, _, I2.laid (o := .frz (tob its) (.tup ys)) (t' := s.toks) (fun _ _ z => Heap.get?_push_of_some _ z) (Nat.le_refl _) ⟨Heap.get?_push_size _ rfl, hz, its, rv, ⟨_, Heap.get?_push_size _ rfl, rfl, _, rfl⟩⟩, rfl, q _ _ (I2.hok.fresh (Nat.le_refl _)) rfl⟩
def rCatK (K : PySem.W.Frag) : R2 := fun x y H Q => ∃ a b xs ys, x = .ref a ∧ y = .ref b ∧ SqT K H a xs ∧ SqT K H b ys ∧ xs.length + ys.length ≤ sizeLine ∧
  (xs = [] → Q (.ref b) H) ∧ (xs ≠ [] → ys = [] → Q (.ref a) H) ∧ (xs ≠ [] → ys ≠ [] → KnQ H (xs ++ ys) Q)
theorem op_catK : OpR X (binaryOp .Add) (rCatK X.K) := by
  rintro pins s σ H x y v u Q I rx ry ⟨a, b, xs, ys, rfl, rfl, ha, hb, hz, q0, q1, q2⟩
  obtain rfl : v = Value.ref a := rx
  obtain rfl : u = Value.ref b := ry
  obtain ⟨us, r1, p1, _⟩ := I.tuple ha
  obtain ⟨vs, r2, p2, _⟩ := I.tuple hb
  by_cases hx : xs = []
  · subst hx
    cases r1
    exact cat_tup0 p1 p2 ⟨.ref b, H, I, rfl, q0 rfl⟩
  · have hl : (us ++ vs).length ≤ sizeLine := by rw [List.length_append, ← r1.length, ← r2.length]; exact hz
    refine HT.cat_tup p1 p2 (fun z => hx (r1.nil_iff.mp z)) (fun z => ⟨.ref a, H, I, rfl, q1 hx (r2.nil_iff.mp z)⟩) (fun z => ?_) (by rwa [List.length_append] at hl)
    exact ep_kn I (r1.append r2) (by rw [List.length_append]; exact hz) (q2 hx fun w => z (r2.nil_iff.mpr w))
def rSlK (K : PySem.W.Frag) : V → Option Int → Option Int → Hp → VK → Prop := fun x lo hi H Q => ∃ a xs, x = .ref a ∧ SqT K H a xs ∧
  (HT.sIx xs.length 0 lo = 0 ∧ HT.sIx xs.length xs.length hi = xs.length → Q (.ref a) H) ∧ (¬ (HT.sIx xs.length 0 lo = 0 ∧ HT.sIx xs.length xs.length hi = xs.length) → KnQ H (cutV xs lo hi) Q)
theorem sl_tupK : SlR X (rSlK X.K) := by
  rintro pins s σ H x v vl vu lo hi sl Q I rx hs pl pu ⟨a, xs, rfl, hx, q1, q2⟩
  by_cases hw : HT.sIx xs.length 0 lo = 0 ∧ HT.sIx xs.length xs.length hi = xs.length
  · exact sl_tupA pins s σ H _ v vl vu lo hi sl Q I rx hs pl pu ⟨a, xs, rfl, hx, q1, fun z => absurd hw z⟩
  · obtain rfl : v = Value.ref a := rx
    obtain ⟨us, r, ht, hz⟩ := I.tuple hx
    have hlen : us.toArray.size = xs.length := List.size_toArray.trans r.length.symm
    refine ⟨"tuple", _, PyProof.Rows.slot_tuple_getitem.lookup, ht.typeIs, HT.getItem_tuple_cut ht hs pl pu (hlen ▸ hw) ?_ (hlen ▸ hz)⟩
    rw [hlen]
    exact ep_kn I ((r.drop _).take _) (Nat.le_trans (cutV_length xs lo hi) hz) (q2 hw)
section
variable {prog : Program} {w : World} {A : Around} {E : Value → Shared → Prop} {s : Shared}
end
def rRepK (K : PySem.W.Frag) : R2 := fun x y H Q => ∃ l k xs, x = .ref l ∧ y = .int k ∧ SqT K H l xs ∧ xs ≠ [] ∧ 2 ≤ k ∧ k ≤ 1000 ∧ xs.length ≤ 1000 ∧ KnQ H (List.replicate k.toNat xs).flatten Q
theorem op_repK : OpR X (binaryOp .Mult) (rRepK X.K) := by
  rintro pins s σ H x y v u Q I rx ry ⟨l, k, xs, rfl, rfl, hT, hne, h1, h2, hz, q⟩
  obtain rfl : v = Value.ref l := rx
  obtain ⟨t, rfl⟩ := ry
  obtain ⟨us, r, ⟨⟨cls, dd, data, sl⟩, ho, hc, n, hd⟩, _⟩ := I.tuple hT
  simp only at hc hd
  subst hc hd
  have hle : us.length = xs.length := r.length.symm
  have hpos : 0 < us.length := by
    rcases Nat.eq_zero_or_pos us.length with z | z
    · exact absurd (List.eq_nil_of_length_eq_zero (hle.symm.trans z)) hne
    · exact z
  have hemp : us.toArray.isEmpty = false := by
    rcases us with _ | ⟨a, b⟩
    · exact absurd hpos (Nat.lt_irrefl 0)
    · rfl
  have hsize : us.toArray.size = xs.length := List.size_toArray.trans hle
  have small : k.toNat * xs.length ≤ 1000000 := Nat.mul_le_mul (show k.toNat ≤ 1000 by omega) hz
  have prodI : ((us.toArray.size : Nat) : Int) * k ≤ 1000000 := by
    have e : ((k.toNat : Nat) : Int) = k := Int.toNat_of_nonneg (by omega)
    rw [hsize, Int.mul_comm, ← e, ← Int.natCast_mul]
    omega
  have flat : (List.replicate k.toNat us).flatten.length ≤ sizeLine := by
    rw [PyProof.Rows.lm_len_rep_flat, hle, sizeLine_eq]; omega
  have out_of : (decide (k < -(2 ^ 63)) || decide (k ≥ 2 ^ 63)) = false := by
    rw [Bool.or_eq_false_iff, decide_eq_false_iff_not, decide_eq_false_iff_not]; omega
  have not_one : (us.toArray.isEmpty || k == 1) = false := by
    rw [hemp, Bool.false_or, beq_eq_false_iff_ne]; omega
  have not_nil : (decide (k ≤ 0) || us.toArray.isEmpty) = false := by
    rw [hemp, Bool.or_false, decide_eq_false_iff_not]; omega
  have fits : Builtin.Tuple.tupleTooMany (((us.toArray.size : Nat) : Int) * k) = false := by
    unfold Builtin.Tuple.tupleTooMany
    rw [sizeLine_eq, decide_eq_false_iff_not]; omega
  refine wpAny_binaryOp_repeat_ref (T := "tuple") (U := "int") (by decide) ⟨_, ho, rfl⟩ (fun s' => typeIs_int s' k t) noFill_tuple_mul F.fills_int_mul F.slot_int_rmul repeat_tuple F.slot_int_index.lookup (call_meets F.slot_int_rmul (typeIs_int s k t) F.entry_int_rmul (F.args_int_rmul_2 _ _) (int_rmul_tuple k t l us.toArray n dd sl) ⟨ho, rfl, ⟨_, ho, rfl⟩, ?_⟩)
  refine call_meets F.slot_tuple_mul ⟨_, ho, rfl⟩ F.entry_tuple_mul (F.args_tuple_mul_2 _ _) (tuple_mulW l us.toArray n dd sl k t out_of not_one not_nil (by omega) fits (by rw [size_rep, List.size_toArray]; exact flat)) ⟨ho, ?_⟩
  rw [size_rep]
  exact ep_kn I (r.rep k.toNat) (by rw [PyProof.Rows.lm_len_rep_flat, sizeLine_eq]; omega) q
end
end Pk

end
section
set_option Elab.async false
set_option linter.all false
set_option maxRecDepth 100000
set_option maxHeartbeats 1000000
namespace Pk
open PySem PySem.Spec PyProof.Rows L2
section
variable {prog : Program} {w : World} {A : Around} {E : Value → Shared → Prop} {s : Shared} {z TI TO i1 i2 T : Addr} {f : Bool} {oT : Obj} {fp1 fp2 : List Addr} {n1 n2 i : Nat} {P1 P2 : Nat → Value → Prop} {St1 St2 : Nat → Heap → Prop}
end
theorem AtG.keep {p : Bool} {h h' : Heap} {a : Addr} {its : Array Value} (q : AtG p h a its) (k : ∀ o, h.get? a = some o → h'.get? a = some o) : AtG p h' a its := by
  cases p with
  | true => exact Heap.IsTuple.at q k
  | false => exact Heap.IsList.at q k
theorem AtG.there {p : Bool} {h : Heap} {a : Addr} {its : Array Value} (q : AtG p h a its) : ∃ o, h.get? a = some o := by
  cases p with
  | true => obtain ⟨o, e, _⟩ := q; exact ⟨o, e⟩
  | false => obtain ⟨o, e, _⟩ := q; exact ⟨o, e⟩
end Pk

end
section
set_option Elab.async false
set_option linter.all false
set_option maxRecDepth 100000
set_option maxHeartbeats 1000000
namespace Pk
open PySem PySem.Spec PyProof.Rows L2
open PySem.W (HoldAll Holds maxOf minOf max_tuple_datum min_tuple_datum)
theorem hold_ints {h : Heap} : ∀ {ns : List Int} {its : List Value}, Vals (ns.map V.int) its → HoldAll h its ns
  | [], _, .nil => ⟨[], .nil⟩
  | n :: ns, _, .cons r t => by
    obtain ⟨u, rfl⟩ := r
    obtain ⟨as, rs⟩ := hold_ints (h := h) t
    exact ⟨_, .cons (.int n u) rs⟩
section
variable {X : Cx}
def rMaxT (K : PySem.W.Frag) : List V → Hp → VK → Prop := fun vs H Q => ∃ (a : Addr) (n : Int) (r : List Int), vs = [V.ref a] ∧ SqT K H a ((n :: r).map V.int) ∧ Q (.int (maxOf n r)) H
def rMinT (K : PySem.W.Frag) : List V → Hp → VK → Prop := fun vs H Q => ∃ (a : Addr) (n : Int) (r : List Int), vs = [V.ref a] ∧ SqT K H a ((n :: r).map V.int) ∧ Q (.int (minOf n r)) H
def rSumT (K : PySem.W.Frag) : List V → Hp → VK → Prop := fun vs H Q => ∃ (a : Addr) (ns : List Int), vs = [V.ref a] ∧ SqT K H a (ns.map V.int) ∧ Q (.int ns.sum) H
theorem holds_int {h : Heap} {v : Value} {i : Int} (r : Holds h v i) : ∃ t, v = .int i t := by
  obtain ⟨as, r⟩ := r
  have r : Reads h v (.int i) as := r
  cases r
  exact ⟨_, rfl⟩
theorem cr_maxT (hc : X.calm = true) (hu : X.A.units + 1 < cLine) : CallR X (.builtin "max") (rMaxT X.K) := by
  intro pins s σ H vs us Q I r h
  obtain ⟨a, n, ms, rfl, hs, q⟩ := h
  obtain ⟨its, rv, hl, _⟩ := I.tuple hs
  rw [Vals.ref1 r]
  refine max_tuple_datum (I.ok.hd hc) hl (by simpa using hold_ints (h := s.heap) (ns := n :: ms) rv) (by show X.A.units + 1 + 0 < cLine; omega) fun i v h' tk _ hv hk => ?_
  obtain ⟨t, rfl⟩ := holds_int hv
  exact ⟨.int _, H, I.kept hk, ⟨_, rfl⟩, q⟩
theorem cr_minT (hc : X.calm = true) (hu : X.A.units + 1 < cLine) : CallR X (.builtin "min") (rMinT X.K) := by
  intro pins s σ H vs us Q I r h
  obtain ⟨a, n, ms, rfl, hs, q⟩ := h
  obtain ⟨its, rv, hl, _⟩ := I.tuple hs
  rw [Vals.ref1 r]
  refine min_tuple_datum (I.ok.hd hc) hl (by simpa using hold_ints (h := s.heap) (ns := n :: ms) rv) (by show X.A.units + 1 + 0 < cLine; omega) fun i v h' tk _ hv hk => ?_
  obtain ⟨t, rfl⟩ := holds_int hv
  exact ⟨.int _, H, I.kept hk, ⟨_, rfl⟩, q⟩
theorem cr_sumT (hc : X.calm = true) : CallR X (.builtin "sum") (rSumT X.K) := by
  intro pins s σ H vs us Q I r h
  obtain ⟨a, ns, rfl, hs, q⟩ := h
  obtain ⟨its, rv, hl, _⟩ := I.tuple hs
  rw [Vals.ref1 r]
  obtain ⟨xs, e⟩ := rv.ints.allInts.items
  have hn : numsOf (intItems xs).toList = ns := by rw [← e]; exact rv.ints.numsOf
  rw [nums_intItems] at hn
  have hl : s.heap.IsTuple a its.toArray := hl
  rw [e] at hl
  refine PySem.W.ktm_sumG (I.ok.hd hc) hl fun h' tk t' hk => ?_
  rw [preSum_eq, List.take_of_length_le (by simp), hn]
  exact ⟨.int _, H, I.kept hk, ⟨_, rfl⟩, q⟩
end
end Pk

end
section
set_option Elab.async false
set_option linter.all false
set_option maxRecDepth 100000
set_option maxHeartbeats 1000000
namespace Pk
open PySem PySem.Calls PyProof.Rows
open PySem.W (sortingHeap EachIs AllAlike Sortable SortsAt dataLe sortVals sortVals_length sortVals_data copyHeap copyHeap_at sorting_copy_old each_map bound_map list_sort_vals)
section
variable {prog : Program} {w : World} {A : Around} {E : Value → Shared → Prop} {s : Shared}
theorem collect_tup {q : Addr} {us : List Value} {R : List Value → Shared → Prop} (ht : s.heap.IsTuple q us.toArray) (hL : us.length ≤ sizeLine)
    (hR : R us { s with heap := (s.heap.push (seqObj "list" #[] 0)).update s.heap.objs.size (Obj.mapSeq (· ++ us.toArray)) }) : wpAny (model prog w) A (collect (.ref q)) R E s := by
  obtain ⟨ob, g1, g2, m, g3⟩ := ht
  have g4 : (s.heap.push (seqObj "list" #[] 0)).get? q = some ob := Heap.get?_push_of_some _ g1
  have new := Heap.get?_push_size s.heap (o := seqObj "list" #[] 0) rfl
  unfold collect
  refine wpAny_bind (wpAny_runValue (codeAny_builtin entry_proto_collect' (?_ : wpAny _ _ (newList [] >>= fun v => again (.builtin "list.__iadd__" ⟨[v, .ref q], []⟩)) _ _ s)))
  refine wpAny_bind (wpAny_newList (wpAny_pure ⟨Code.quiet_builtin _ (by decide +kernel), codeAny_builtin entry_list_iadd' (?_ : wpAny _ _ (Builtin.List.listExtendWith (.ref s.heap.objs.size) (.ref q) (.ref s.heap.objs.size)) _ _ { s with heap := s.heap.push (seqObj "list" #[] 0) })⟩))
  unfold Builtin.List.listExtendWith
  refine wpAny_bind (wpAny_typeOf (T := "tuple") ⟨ob, g4, g2⟩ ?_)
  rw [if_pos (by rw [show (Value.type "tuple" == Value.type "tuple") = true from rfl]; simp)]
  refine wpAny_bind (listItems_at g4 g3 (wpAny_bind (listItems_at (xs := #[]) (n := 0) new rfl ?_)))
  rw [if_neg (by simp)]
  refine wpAny_bind (listUpdate_at (xs := #[]) (n := 0) new rfl (wpAny_pure ?_) (Nat.zero_le _) (by show (#[] ++ us.toArray).size ≤ sizeLine + 1; simp only [Array.size_append, List.size_toArray, List.length_nil]; omega))
  refine wpAny_bind (wpAny_load (get?_update_seq new _) (?_ : wpAny _ _ (pure ((#[] : Array Value) ++ us.toArray).toList) R E _))
  rw [show ((#[] : Array Value) ++ us.toArray).toList = us by simp]
  exact wpAny_pure hR
variable {β : Type} {vs : List Value} {bs : List β} {enc : β → PyData} {R : Value → β → Prop}
theorem sorted_tupD {q : Addr} {Q : Value → Shared → Prop} (ht : s.heap.IsTuple q vs.toArray) (e : EachIs R vs bs) (er : EachIs (fun v b => ∃ as, Reads s.heap v (enc b) as) vs bs)
    (ha : AllAlike (bs.map enc)) (hk : Sortable (bs.map enc)) (hL : bs.length ≤ sizeLine) (hd : ∀ b, b ∈ bs → A.units + 2 + (enc b).depth < cLine)
    (hQ : ∀ out, out.length = bs.length → EachIs R out (bs.mergeSort (dataLe false enc)) → Q (.ref (s.heap.objs.size + 1)) { s with heap := sortedAll s.heap vs (List.toArray out) }) :
    wpAny (model prog w) A (call (.builtin "sorted") [.ref q]) Q E s := by
  have hv : vs.length ≤ sizeLine := by rw [e.length]; exact hL
  let s2 : Shared := { s with heap := sortingHeap (copyHeap s.heap vs) (s.heap.objs.size + 1) vs }
  have er2 : EachIs (fun v b => ∃ as, Reads s2.heap v (enc b) as) vs bs := er.mono fun _ _ ⟨as, r⟩ => ⟨as, Reads.keeps (fun _ _ => sorting_copy_old) r⟩
  have S := SortsAt.data (prog := prog) (w := w) (A := A.in1.in1) (s := s2) (each_map (R := fun v d => ∃ as, Reads s2.heap v d as) enc er2) ha hk (bound_map hd)
  refine call_function_entry kind_sorted plain_sorted entry_sorted (args_sorted1 _) ?_
  unfold Builtin.«sorted»
  refine wpAny_bind (m := checkCount "sorted" 1 1 _) (wpAny_pure (wpAny_bind (collect_tup ht hv (wpAny_bind (wpAny_newList ?_ hv)))))
  have hz : ((s.heap.push (seqObj "list" #[] 0)).update s.heap.objs.size (Obj.mapSeq (· ++ vs.toArray))).objs.size = s.heap.objs.size + 1 := by rw [Heap.size_update, size_push']
  show wpAny _ _ _ _ _ { s with heap := copyHeap s.heap vs }
  rw [hz]
  have body : wpAny (model prog w) A.in1.in1 (Builtin.«list.sort» ⟨[.ref (s.heap.objs.size + 1)], []⟩) (fun f s' => f = .done (.ret .none) ∧ Q (.ref (s.heap.objs.size + 1)) s') (fun _ _ => False) { s with heap := copyHeap s.heap vs } :=
    list_sort_vals (s := { s with heap := copyHeap s.heap vs }) (copyHeap_at s.heap vs) S hv ⟨rfl, hQ _ (by rw [sortVals_length false rfl]; exact e.length) (sortVals_data false e er2 ha)⟩
  refine wpAny_bind (wpAny_holding (wpAny_call_entry_kw slot_list_sort ⟨_, copyHeap_at s.heap vs, rfl⟩ entry_list_sort (?_ : wpAny (model prog w) A.in1.in1 (Builtin.«list.sort» ⟨[.ref (s.heap.objs.size + 1)], []⟩) _ _ _) (args_list_sort _)))
  refine wpAny_mono body (fun f s' ⟨e1, e2⟩ => ?_) fun _ _ z => z.elim
  subst e1
  exact ⟨_, rfl, wpAny_pure ⟨_, rfl, e2⟩⟩
end
end Pk

end
section
set_option Elab.async false
set_option linter.all false
set_option maxRecDepth 100000
set_option maxHeartbeats 1000000
namespace Pk
open PySem PySem.Spec PyProof.Rows L2
end Pk

end
section
set_option Elab.async false
set_option linter.all false
set_option maxRecDepth 100000
set_option maxHeartbeats 1000000
namespace Pk
open PySem PySem.Calls PyProof.Rows
open PySem.W (sortingHeap sortingHeap_old EachIs AllAlike Sortable SortsAt dataLe sortVals sortVals_length sortVals_data each_map bound_map list_sort_vals KdlSrc kdl_extend)
section
variable {prog : Program} {w : World} {A : Around} {E : Value → Shared → Prop} {s : Shared} {r d : Addr} {es : Array DictEntry} {ep : Nat}
theorem collect_src {T : String} {n : Nat} {P : Nat → Value → Prop} {OK : Heap → Prop} (K : KdlSrc prog w T r d n P OK) {R : List Value → Shared → Prop} (hh : A.handled = none) (hok : OK s.heap) (hn : n ≤ sizeLine)
    (h : ∀ (h' : Heap) (tk : Nat) (acc : Array Value), (∀ b o, s.heap.get? b = some o → h'.get? b = some o) → s.heap.objs.size < h'.objs.size → ItemsOf P acc n → R acc.toList { s with heap := h', toks := tk }) :
    wpAny (model prog w) A (collect (.ref r)) R E s := by
  obtain ⟨hr, hd⟩ := K.there _ hok
  unfold collect
  refine wpAny_bind (wpAny_runValue (codeAny_builtin entry_proto_collect' ?_))
  rw [Around.under_plainId PySem.F.plain_proto_collect _]
  show wpAny _ A.in1 (newList [] >>= fun l => again (.builtin "list.__iadd__" ⟨[l, .ref r], []⟩)) _ _ s
  refine wpAny_bind (wpAny_newObj_type ?_)
  refine wpAny_pure ⟨plainId_quiet PySem.F.plain_list_iadd _, codeAny_builtin entry_list_iadd' ?_⟩
  rw [Around.under_plainId PySem.F.plain_list_iadd _]
  have hS₁ : (s.heap.push { cls := .type "list", data := .seq ([] : List Value).toArray }).get? s.heap.objs.size = some { cls := .type "list", data := .seq #[] } := Heap.get?_push_size _ rfl
  show wpAny _ A.in1 (Builtin.List.listExtendWith (.ref s.heap.objs.size) (.ref r) (.ref s.heap.objs.size)) _ _ _
  have key := kdl_extend (prog := prog) (w := w) (A := A) (s := { s with heap := s.heap.push { cls := .type "list", data := .seq ([] : List Value).toArray } })
    (R := fun (q : Result) (s' : Shared) => ∃ (h' : Heap) (tk : Nat) (acc' : Array Value) (c' : Nat), q = .ok (.ret (.ref s.heap.objs.size)) ∧ s' = { s with heap := h', toks := tk } ∧
      (∀ b o, s.heap.get? b = some o → h'.get? b = some o) ∧ h'.get? s.heap.objs.size = some { cls := .type "list", dict := none, data := .seq acc' c', slots := #[] } ∧ ItemsOf P acc' n)
    K hh (K.keep _ _ hok fun b _ o e => Heap.get?_push_of_some _ e) s.heap.objs.size (Nat.ne_of_gt hr) (Nat.ne_of_gt hd) (.ref s.heap.objs.size) 0 hS₁
    (fun h' tk acc' c' hk hS' hacc => ⟨h', tk, acc', c', rfl, rfl, fun b o e => hk b o (Nat.ne_of_lt (Heap.lt_size e)) (Heap.get?_push_of_some _ e), hS', hacc⟩) hn
  refine wpAny_mono key (fun fin s' x => ?_) fun e s' x => ?_
  · cases fin with
    | done f =>
      obtain ⟨h', tk, acc', c', e, rfl, hk, hS', hacc⟩ := x
      cases e
      show wpAny _ A (load s.heap.objs.size >>= _) _ _ _
      refine wpAny_bind (wpAny_load hS' ?_)
      refine wpAny_pure ?_
      show R acc'.toList _
      exact h h' tk acc' hk (Heap.lt_size hS') hacc
    | again c₁ =>
      refine ⟨x.1, codeAny_mono x.2 fun q s₂ y => ?_⟩
      obtain ⟨h', tk, acc', c', rfl, rfl, hk, hS', hacc⟩ := y
      show wpAny _ A (load s.heap.objs.size >>= _) _ _ _
      refine wpAny_bind (wpAny_load hS' ?_)
      refine wpAny_pure ?_
      show R acc'.toList _
      exact h h' tk acc' hk (Heap.lt_size hS') hacc
  · obtain ⟨_, _, _, _, e', _⟩ := x
    cases e'
theorem keys_of {acc : Array Value} (h : ItemsOf (fun i v => ∃ hi : i < es.size, v = es[i].key) acc es.size) : acc.toList = es.toList.map (·.key) := by
  refine List.ext_getElem? fun j => ?_
  rw [List.getElem?_map, Array.getElem?_toList, Array.getElem?_toList]
  cases e : acc[j]? with
  | none =>
    have h1 : es.size ≤ j := by rw [← h.1]; exact Array.getElem?_eq_none_iff.mp e
    rw [Array.getElem?_eq_none_iff.mpr h1]
    rfl
  | some v =>
    obtain ⟨hi, rfl⟩ := h.2 j v e
    rw [Array.getElem?_eq_getElem hi]
    rfl
theorem collect_keys {R : List Value → Shared → Prop} (hh : A.handled = none) (lo : (d == sysModules) = false) (hm : s.heap.DictRaw d es ep) (hn : es.size ≤ sizeLine)
    (h : ∀ (h' : Heap) (tk : Nat), (∀ b o, s.heap.get? b = some o → h'.get? b = some o) → s.heap.objs.size < h'.objs.size → R (es.toList.map (·.key)) { s with heap := h', toks := tk }) :
    wpAny (model prog w) A (collect (.ref d)) R E s :=
  collect_src (KdlSrc.rawDict (es := es) (ep := ep) lo) hh hm hn fun h' tk acc k lt it => by rw [keys_of it]; exact h h' tk k lt
variable {β : Type} {vs : List Value} {bs : List β} {enc : β → PyData} {R : Value → β → Prop}
theorem sorted_srcD {Q : Value → Shared → Prop} (col : ∀ {R : List Value → Shared → Prop} {E : Value → Shared → Prop}, (∀ (h' : Heap) (tk : Nat), (∀ b o, s.heap.get? b = some o → h'.get? b = some o) → s.heap.objs.size < h'.objs.size → R vs { s with heap := h', toks := tk }) → wpAny (model prog w) A.in1 (collect (.ref r)) R E s)
    (e : EachIs R vs bs) (er : EachIs (fun v b => ∃ as, Reads s.heap v (enc b) as) vs bs) (ha : AllAlike (bs.map enc)) (hk : Sortable (bs.map enc)) (hL : bs.length ≤ sizeLine) (hd : ∀ b, b ∈ bs → A.units + 2 + (enc b).depth < cLine)
    (hQ : ∀ (h' : Heap) (tk : Nat) (l : Addr) (out : List Value) (c : Nat), (∀ b o, s.heap.get? b = some o → h'.get? b = some o) → s.heap.objs.size ≤ l → h'.get? l = some (seqObj "list" out.toArray c) → EachIs R out (bs.mergeSort (dataLe false enc)) → Q (.ref l) { s with heap := h', toks := tk }) :
    wpAny (model prog w) A (call (.builtin "sorted") [.ref r]) Q E s := by
  have hlen : vs.length ≤ sizeLine := by rw [e.length]; exact hL
  refine call_function_entry kind_sorted plain_sorted entry_sorted (args_sorted1 _) ?_
  unfold Builtin.«sorted»
  refine wpAny_bind (m := checkCount "sorted" 1 1 _) (wpAny_pure ?_)
  refine wpAny_bind (col fun h' tk hk1 hlt => ?_)
  refine wpAny_bind (wpAny_newList ?_ hlen)
  have hob : (h'.push (seqObj "list" vs.toArray 0)).get? h'.objs.size = some (seqObj "list" vs.toArray 0) := Heap.get?_push_size _ rfl
  have kb : ∀ b o, s.heap.get? b = some o → (h'.push (seqObj "list" vs.toArray 0)).get? b = some o := fun b o e => Heap.get?_push_of_some _ (hk1 b o e)
  have ne0 : ∀ b o, s.heap.get? b = some o → b ≠ h'.objs.size := fun b o e => Nat.ne_of_lt (Heap.lt_size (hk1 b o e))
  show wpAny _ _ _ _ _ { s with heap := h'.push (seqObj "list" vs.toArray 0), toks := tk }
  let s2 : Shared := { s with heap := sortingHeap (h'.push (seqObj "list" vs.toArray 0)) h'.objs.size vs, toks := tk }
  have er2 : EachIs (fun v b => ∃ as, Reads s2.heap v (enc b) as) vs bs := er.mono fun _ _ ⟨as, r⟩ => ⟨as, Reads.keeps (fun b o z => sortingHeap_old (ne0 b o z) (kb b o z)) r⟩
  have S := SortsAt.data (prog := prog) (w := w) (A := A.in1.in1) (s := s2) (each_map (R := fun v d => ∃ as, Reads s2.heap v d as) enc er2) ha hk (bound_map hd)
  have body : wpAny (model prog w) A.in1.in1 (Builtin.«list.sort» ⟨[.ref h'.objs.size], []⟩) (fun f s' => f = .done (.ret .none) ∧ Q (.ref h'.objs.size) s') (fun _ _ => False) { s with heap := h'.push (seqObj "list" vs.toArray 0), toks := tk } := by
    refine list_sort_vals (s := { s with heap := h'.push (seqObj "list" vs.toArray 0), toks := tk }) hob S hlen ⟨rfl, ?_⟩
    have hc := fun out => PyProof.Rows.sortedHeap_at (vs := vs) (out := out) hob
    exact hQ _ tk _ _ _ (fun b o z => (PyProof.Rows.sortedHeap_old (ne0 b o z) (Heap.lt_size (kb b o z))).trans (kb b o z)) (Nat.le_of_lt hlt) (hc _).choose_spec (sortVals_data false e er2 ha)
  refine wpAny_bind (wpAny_holding (wpAny_call_entry_kw slot_list_sort ⟨_, hob, rfl⟩ entry_list_sort (?_ : wpAny (model prog w) A.in1.in1 (Builtin.«list.sort» ⟨[.ref h'.objs.size], []⟩) _ _ _) (args_list_sort _)))
  refine wpAny_mono body (fun f s' ⟨e1, e2⟩ => ?_) fun _ _ z => z.elim
  subst e1
  exact ⟨_, rfl, wpAny_pure ⟨_, rfl, e2⟩⟩
theorem sorted_keysD {Q : Value → Shared → Prop} (hh : A.handled = none) (lo : (d == sysModules) = false) (hm : s.heap.DictRaw d es ep) (hvs : es.toList.map (·.key) = vs)
    (e : EachIs R vs bs) (er : EachIs (fun v b => ∃ as, Reads s.heap v (enc b) as) vs bs) (ha : AllAlike (bs.map enc)) (hk : Sortable (bs.map enc)) (hL : bs.length ≤ sizeLine) (hd : ∀ b, b ∈ bs → A.units + 2 + (enc b).depth < cLine)
    (hQ : ∀ (h' : Heap) (tk : Nat) (l : Addr) (out : List Value) (c : Nat), (∀ b o, s.heap.get? b = some o → h'.get? b = some o) → s.heap.objs.size ≤ l → h'.get? l = some (seqObj "list" out.toArray c) → EachIs R out (bs.mergeSort (dataLe false enc)) → Q (.ref l) { s with heap := h', toks := tk }) :
    wpAny (model prog w) A (call (.builtin "sorted") [.ref d]) Q E s := by
  subst hvs
  have hn : es.size ≤ sizeLine := by
    have h1 := e.length
    rw [List.length_map, Array.length_toList] at h1
    omega
  exact sorted_srcD (fun {R E} h => collect_keys (A := A.in1) hh lo hm hn h) e er ha hk hL hd hQ
end
end Pk
namespace Pk
open PySem PySem.Spec PyProof.Rows L2
theorem KV.vals {κ : Type} : ∀ {l : List (κ × V)} {m : List (κ × Value)}, KV l m → Vals (l.map (·.2)) (m.map (·.2))
  | _, _, .nil => .nil
  | _, _, .cons h t => .cons h.2 (KV.vals t)
theorem Pairs.vals {K : Type} [DecidableEq K] {prog : Program} {w : World} {knd : KeyKind prog w K} : ∀ {es : List DictEntry} {kvs : List (K × Value)}, Pairs knd es kvs → es.map (·.val) = kvs.map (·.2)
  | _, _, .nil => rfl
  | _, _, .cons _ h t => by rw [List.map_cons, List.map_cons, h, Pairs.vals t]
theorem KT.vals {H : Hp} : ∀ {l : List (List Key × V)} {m : List (List Key × Addr × Value)}, KT H l m → Vals (l.map (·.2)) (m.map fun x => x.2.2)
  | _, _, .nil => .nil
  | _, _, .cons h t => .cons h.2.2 (KT.vals t)
def IsDic (H : Hp) (a : Addr) (vs : List V) : Prop := (∃ kvs, Rd H a (.dK kvs) ∧ vs = kvs.map (·.2)) ∨ ∃ kvs, Rd H a (.dT kvs) ∧ vs = kvs.map (·.2)
theorem dic_raw {P : Program} {w : World} {H : Hp} {h : Heap} {a : Addr} {vs : List V} (ok : HOk P w H h) (x : IsDic H a vs) : (a == sysModules) = false ∧ ∃ es ep, h.DictRaw a es ep ∧ Vals vs (es.toList.map (·.val)) := by
  rcases x with ⟨kvs, e, rfl⟩ | ⟨kvs, e, rfl⟩
  · obtain ⟨_, hs, us, rel, o, es, ep, h1, h2, h3, _, h4, _⟩ := dk_rd ok e
    exact ⟨hs, es, ep, ⟨o, h1, h2, h3⟩, by rw [Pairs.vals h4]; exact KV.vals rel⟩
  · obtain ⟨_, hs, xs, rel, o, es, ep, h1, h2, h3, h4, _⟩ := dt_rd ok e
    refine ⟨hs, es, ep, ⟨o, h1, h2, h3⟩, ?_⟩
    rw [h4, List.map_map]
    exact KT.vals rel
theorem key_rel {k : Key} {u : Value} (h : keyIs k u = true) : RelV (kV k) u := by
  rcases keyIs_shape h with ⟨i, t, rfl, rfl⟩ | ⟨x, t, rfl, rfl⟩
  · exact ⟨t, rfl⟩
  · exact ⟨t, rfl⟩
theorem Pairs.keys {prog : Program} {w : World} : ∀ {es : List DictEntry} {vs : List (Key × Value)} {kvs : List (Key × V)}, Pairs (mixKind prog w) es vs → KV kvs vs → Vals (kvs.map fun p => kV p.1) (es.map (·.key))
  | _, _, _, .nil, .nil => .nil
  | _, _, _, .cons h _ t, .cons g r => .cons (by show RelV (kV _) _; rw [g.1]; exact key_rel h) (Pairs.keys t r)
theorem dk_raw {P : Program} {w : World} {H : Hp} {h : Heap} {a : Addr} {kvs : List (Key × V)} (ok : HOk P w H h) (e : Rd H a (.dK kvs)) : (a == sysModules) = false ∧ ∃ es ep, h.DictRaw a es ep ∧ Vals (kvs.map fun p => kV p.1) (es.toList.map (·.key)) := by
  obtain ⟨_, hs, us, rel, o, es, ep, h1, h2, h3, _, h4, _⟩ := dk_rd ok e
  exact ⟨hs, es, ep, ⟨o, h1, h2, h3⟩, Pairs.keys h4 rel⟩
section
variable {X : Cx}
end
end Pk

end
section
set_option Elab.async false
set_option linter.all false
set_option maxRecDepth 100000
set_option maxHeartbeats 1000000
namespace Pk
open PySem PySem.Spec PyProof.Rows L2
def excO (a : Addr) (oe : Obj) : HO := .ext fun h => h.get? a = some oe
section
variable {X : Cx} {pins : List (Addr × Obj)} {σ : L2.St} {H : Hp} {s : Shared}
end
end Pk

end
section
set_option Elab.async false
set_option linter.all false
set_option maxRecDepth 100000
set_option maxHeartbeats 2000000
namespace Pk
open PySem PySem.Spec PyProof.Rows L2
section
variable {X : Cx} {x n : Str} {c : Value} {i : Nat} {body su : List Stmt} {b0 : Stmt} {p1 p2 p3 : Pos} {tb : WX → TS} {ts : Addr → Value → Option Addr → TS} {Wo : WX}
end
end Pk

end
section
set_option Elab.async false
set_option linter.all false
set_option maxRecDepth 100000
set_option maxHeartbeats 2000000
namespace Pk
open PySem PySem.Spec PyProof.Rows L2
def spI (C : Addr) (f : Str) : Sp := fun vs H Q E => ∃ (a : Addr) (v : V), vs = [.ref a, v] ∧ H a = some (exo a C none) ∧ ∀ dx, H dx = none → dx ≠ a → Q .non (upd (upd H dx (exd dx [(f, v)])) a (exo a C (some dx)))
section
variable {X : Cx}
end
def isInit (x q f : Str) : List Stmt → Bool
  | [.Assign [.Attribute (.Name y _) g _] (.Name z _) _] => decide (y = x) && decide (z = q) && decide (g = f) && !decide (x = q) && !(x == ("__debug__" : Str)) && !(x == ("__classdict__" : Str)) && !(q == ("__debug__" : Str)) && !(q == ("__classdict__" : Str))
  | _ => false
theorem init_ok {P : Program} {w : World} {K : PySem.W.Frag} {mg : Str → Option Value} {base : Heap} {nm qual x q f : Str} {st : Stmt} {C fI : Addr} {fd : FuncData} (T : OexC K C) (hno : PySem.W.findIn K (.ref C) f = some none) (F : L2.Fun K nm qual st fI fd)
    (hsc : C8.scC [x, q] [x, q] (defScope st) = true) (hb : isInit x q f (defBody st) = true) (k : Nat) : FnOk P w K mg base L2.CX0 (k + 1) fI fd [x, q] (spI C f) := by
  have S := C8.fnScope_by hsc
  refine L2.Fun.ok (N := [x, q]) F S (fun vs H Q E ⟨a, v, e, _⟩ => by rw [e]; rfl) fun cdv A outer s H vs Q E hr ⟨a, v, e, ha, g⟩ => ?_
  subst e
  generalize hB : defBody st = B at hb
  unfold isInit at hb
  split at hb
  · rename_i y p1 g1 p2 z p3 p4
    simp only [Bool.and_eq_true, decide_eq_true_eq, Bool.not_eq_true', decide_eq_false_iff_not] at hb
    obtain ⟨⟨⟨⟨⟨⟨⟨rfl, rfl⟩, rfl⟩, hne⟩, d1⟩, d2⟩, d3⟩, d4⟩ := hb
    have vis : ∀ u, u ∈ [y, z] → Vis (defScope st) u := fun u hu => (S.par u hu).elim .inl fun e => .inr (.inl e)
    refine ⟨_, pss_one (ps_ost (X := (cxOf L2.CX0 P w K mg base [y, z] qual (defScope st) fI cdv A outer s H E).nox) (pe_var (i := 0) rfl (vis y (by simp)) d1 d2) (pe_var (i := 1) rfl (vis z (by simp)) d3 d4) rfl), ?_⟩
    exact ⟨v, rfl, .ref a, rfl, a, C, rfl, T, hno, .inl ⟨ha, fun dx nd ne => g dx nd ne⟩⟩
  · cases hb
end Pk

end
section
set_option Elab.async false
set_option linter.all false
set_option maxRecDepth 100000
set_option maxHeartbeats 2000000
namespace Pk
open PySem PySem.Spec PyProof.Rows L2
section
variable {X : Cx} {body : List Stmt} {h0 : ExceptHandler} {hds : List ExceptHandler} {l : List (Value × Nat × (Addr → Value → Option Addr → TS))} {pos : Pos} {tb : WX → TS} {Wo : WX}
end
section
open HotX
variable {prog : Program} {w : World} {A : Around} {E : Value → Shared → Prop} {s : Shared}
end
section
variable {X : Cx} {body : List Stmt} {h0 : ExceptHandler} {hds : List ExceptHandler} {l : List (Value × Nat × (Addr → Value → Option Addr → TS))} {pos : Pos} {tb : WX → TS} {Wo : WX}
end
end Pk

end
section
set_option Elab.async false
set_option linter.all false
set_option maxRecDepth 100000
set_option maxHeartbeats 1000000
namespace Pk
open PySem PySem.Spec PyProof.Rows L2
def DictO (u : HO) : Prop := (∃ kvs, u = .dK kvs) ∨ ∃ kvs, u = .dT kvs
theorem DictO.nf {o : Obj} {v : HO} (h : DictO (.frz o v)) : False := by
  rcases h with ⟨_, h⟩ | ⟨_, h⟩
  · cases h
  · cases h
def UnL (X : Cx) (H' : Hp) (q : Hp → Prop) : Prop := ∃ (d : Addr) (od : Obj) (u : HO), H' d = some (.frz od u) ∧ (∀ p q, X.H_0 d ≠ some (.frz p q)) ∧ q (upd H' d u)
theorem pe_unl {X : Cx} {e : Expr} {t : TE} (he : PE X e t) : PE X e (fun σ H Q => t σ H fun v H' => Q v H' ∨ UnL X H' (Q v)) := ⟨fun pins s σ H Q I h => thn (he.run pins s σ H _ I h) fun v s1 ⟨x, H1, I1, r, q⟩ => by
  rcases q with q | ⟨d, od, kvs, hd, hn, q⟩
  · exact ⟨x, H1, I1, r, q⟩
  · exact ⟨x, _, I1.unlock hd hn, r, q⟩⟩
def unD (X : Cx) (D : Ends) : Ends := ⟨fun σ' H' => D.nx σ' H' ∨ UnL X H' (D.nx σ'), fun v H' => D.rt v H' ∨ UnL X H' (D.rt v), fun σ' H' => D.bk σ' H' ∨ UnL X H' (D.bk σ'), fun σ' H' => D.ct σ' H' ∨ UnL X H' (D.ct σ')⟩
theorem ps_unl {X : Cx} {st : Stmt} {t : TS} (hs : PS X st t) : PS X st (fun D σ H => t (unD X D) σ H) := ⟨fun pins s σ H D I h => thn (hs.run pins s σ H _ I h) fun f s1 q => by
  cases f with
  | next =>
    obtain ⟨σ', H', I2, q | ⟨d, od, kvs, hd, hn, q⟩⟩ := q
    · exact ⟨σ', H', I2, q⟩
    · exact ⟨σ', _, I2.unlock hd hn, q⟩
  | brk =>
    obtain ⟨σ', H', I2, q | ⟨d, od, kvs, hd, hn, q⟩⟩ := q
    · exact ⟨σ', H', I2, q⟩
    · exact ⟨σ', _, I2.unlock hd hn, q⟩
  | cont =>
    obtain ⟨σ', H', I2, q | ⟨d, od, kvs, hd, hn, q⟩⟩ := q
    · exact ⟨σ', H', I2, q⟩
    · exact ⟨σ', _, I2.unlock hd hn, q⟩
  | ret v =>
    obtain ⟨x, σ', H', I2, r, q | ⟨d, od, kvs, hd, hn, q⟩⟩ := q
    · exact ⟨x, σ', H', I2, r, q⟩
    · exact ⟨x, σ', _, I2.unlock hd hn, r, q⟩⟩
section
variable {X : Cx} {kx vx tg iter : Expr} {ifs : List Expr} {scope : Scope} {own : List (Str × Nat)} {pos : Pos} {wi : TI} {g : TG} {tt : TT} {tk tv : TE}
end
end Pk

end
section
set_option Elab.async false
set_option linter.all false
set_option maxRecDepth 100000
set_option maxHeartbeats 1000000
namespace Pk
open PySem PySem.Spec PyProof.Rows L2
section
variable {X : Cx} {pins : List (Addr × Obj)} {σ : L2.St} {H : Hp} {s : Shared}
end
end Pk

end
section
set_option Elab.async false
set_option linter.all false
set_option maxRecDepth 100000
set_option maxHeartbeats 1000000
namespace Pk
open PySem PySem.Spec PyProof.Rows L2
section
variable {X : Cx} {o e f : Expr} {td ty tx : TE} {apos cpos : Pos}
end
end Pk
namespace Pk
open PySem PySem.Spec PyProof.Rows
theorem len_rawF {prog : Program} {w : World} {A : Around} {E : Value → Shared → Prop} {s : Shared} {d : Addr} {es : Array DictEntry} {ep : Nat} {Q : Value → Shared → Prop} (hd : (d == sysModules) = false) (hm : s.heap.DictRaw d es ep) (hfit : (es.size : Int) < 2 ^ 63)
    (h : Q (.int es.size (s.toks + 1)) { s with toks := s.toks + 1 + 1 }) : wpAny (model prog w) A (call (.builtin "len") [.ref d]) Q E s := by
  refine Calls.call_function_entry kind_len plain_len entry_len (args_len1 _) ?_
  unfold Builtin.«len»
  refine wpAny_bind (m := oneArg "len" _) (wpAny_pure ?_)
  refine wpAny_bind (m := callSpecial? (.ref d) (Str.ofString "__len__")) (wpAny_callSpecial?_slot (name := Str.ofString "__len__") hm.typeIs F.slot_dict_len
    (call_meetsIn F.slot_dict_len hm.typeIs F.entry_dict_len (F.args_dict_len_1 _) (meets_dict_len_raw d hd) ⟨es, ep, hm, ?_⟩))
  show wpAny _ _ _ _ _ { s with toks := s.toks + 1 }
  refine wpAny_bind (wpAny_holding (wpAny_pure ?_))
  refine wpAny_bind (wpAny_letGo ?_)
  show wpAny _ _ (if ((es.size : Nat) : Int) < 0 then _ else _) _ _ _
  rw [if_neg (by omega)]
  show wpAny _ _ (if ((es.size : Nat) : Int) ≥ 2 ^ 63 then _ else _) _ _ _
  rw [if_neg (by omega)]
  exact wpAny_bind (wpAny_mkInt (wpAny_pure ⟨_, rfl, h⟩))
end Pk

end
section
set_option Elab.async false
set_option linter.all false
set_option maxRecDepth 100000
set_option maxHeartbeats 1000000
namespace Pk
open PySem PySem.Spec PySem.W PyProof.Rows L2
section
variable {P : Program} {w : World} {K : PySem.W.Frag} {d : Addr} {o : Obj} {es : Array DictEntry} {ep : Nat}
end
section
variable {X : Cx} {e : Expr} {td : TE} {apos cpos : Pos}
end
end Pk

end
section
set_option Elab.async false
set_option linter.all false
set_option maxRecDepth 100000
set_option maxHeartbeats 1000000
namespace Pk
open PySem PySem.W PySem.Calls PyProof.Rows PyProof.V PySem.Spec
section
variable {prog : Program} {w : World} {A : Around} {E : Value → Shared → Prop} {s : Shared}
end
open L2
def ItSt (h : Heap) (it d : Addr) (i n ep : Nat) : Prop := (∃ ok ov, IsItemIter h it d i n ep ok ov) ∨ ∃ ok ov a f, KdxIt h it d i n ep ok ov a f
theorem ItSt.obj {h : Heap} {it d : Addr} {i n ep : Nat} (x : ItSt h it d i n ep) : ∃ vs, h.get? it = some { cls := .type "dict_itemiterator", dict := none, data := .fields vs, slots := #[] } := by
  rcases x with ⟨_, _, e⟩ | ⟨_, _, _, _, e⟩
  · exact ⟨_, e⟩
  · exact ⟨_, e⟩
section
variable {P : Program} {w : World} {K : PySem.W.Frag} {d : Addr} {o : Obj} {es : Array DictEntry} {ep : Nat}
end
section
variable {X : Cx} {e : Expr} {td : TE} {apos cpos : Pos}
end
end Pk

end
section
set_option Elab.async false
set_option linter.all false
set_option maxRecDepth 100000
set_option maxHeartbeats 1000000
namespace Pk
open PySem PySem.Spec PySem.W PyProof.Rows L2
end Pk
namespace Pk
open PySem PySem.Calls PyProof.Rows
open PySem.W (sortingHeap sortingHeap_old EachIs AllAlike Sortable SortsAt dataLe sortVals sortVals_length sortVals_data each_map bound_map list_sort_vals DilG dil_collect)
section
variable {prog : Program} {w : World} {A : Around} {E : Value → Shared → Prop} {s : Shared} {r d : Addr} {es : Array DictEntry} {ep : Nat}
variable {β : Type} {enc : β → PyData}
end
end Pk
namespace Pk
open PySem PySem.Spec PyProof.Rows L2
section
variable {X : Cx}
end
end Pk

end
section
set_option Elab.async false
set_option linter.all false
set_option maxRecDepth 100000
set_option maxHeartbeats 1000000
namespace Pk
open PySem PySem.Spec PySem.Calls PyProof.Rows L2 Pi
structure Off7 (S z TI TO i1 i2 l1 l2 : Addr) : Prop where
  z : z < S
  TI : TI < S
  TO : TO < S
  i1 : i1 < S
  i2 : i2 < S
  l1 : l1 < S
  l2 : l2 < S
def ZSt (p q : Bool) (z TI TO i1 i2 l1 l2 S : Addr) (xs ys : Array Value) (i : Nat) (h : Heap) : Prop :=
  IsPair h TI (.ref i1) (.ref i2) ∧ (ItG p h i1 l1 i ∧ AtG p h l1 xs) ∧ (ItG q h i2 l2 i ∧ AtG q h l2 ys) ∧
    ((IsZip h z TI TO .none ∧ ∃ a b, IsPair h TO a b) ∨ ∃ T f oT, IsZipHeld h z TI TO T f ∧ h.get? T = some oT ∧ T ≠ z ∧ T ≠ i1 ∧ T ≠ i2 ∧ T ≠ S)
section
variable {prog : Program} {w : World} {A : Around} {E : Value → Shared → Prop} {s : Shared} {p q : Bool} {z TI TO i1 i2 l1 l2 S : Addr} {xs ys : Array Value} {i : Nat}
theorem ZSt.keep {h h' : Heap} (o7 : Off7 S z TI TO i1 i2 l1 l2) (st : ZSt p q z TI TO i1 i2 l1 l2 S xs ys i h) (k : ∀ b o, b ≠ S → h.get? b = some o → h'.get? b = some o) : ZSt p q z TI TO i1 i2 l1 l2 S xs ys i h' := by
  obtain ⟨hTI, ⟨h1, hl1⟩, ⟨h2, hl2⟩, hz⟩ := st
  refine ⟨k _ _ (Nat.ne_of_lt o7.TI) hTI, ⟨h1.keep fun o e => k _ o (Nat.ne_of_lt o7.i1) e, hl1.keep fun o e => k _ o (Nat.ne_of_lt o7.l1) e⟩, ⟨h2.keep fun o e => k _ o (Nat.ne_of_lt o7.i2) e, hl2.keep fun o e => k _ o (Nat.ne_of_lt o7.l2) e⟩, ?_⟩
  rcases hz with ⟨hz, a, b, hTO⟩ | ⟨T, f, oT, hz, hT, r1, r2, r3, r4⟩
  · exact .inl ⟨k _ _ (Nat.ne_of_lt o7.z) hz, a, b, k _ _ (Nat.ne_of_lt o7.TO) hTO⟩
  · exact .inr ⟨T, f, oT, k _ _ (Nat.ne_of_lt o7.z) hz, k _ _ r4 hT, r1, r2, r3, r4⟩
end
section
variable {prog : Program} {w : World} {A : Around} {s : Shared} {R : Result → Shared → Prop} {p q : Bool} {z TI TO i1 i2 l1 l2 S : Addr} {xs ys : Array Value}
theorem Off7.out {b : Addr} (o7 : Off7 S z TI TO i1 i2 l1 l2) (h : S < b) : b ∉ [z, TO, i1, i2] := fun hm => by
  simp only [List.mem_cons, List.not_mem_nil, or_false] at hm
  have h1 := o7.z
  have h2 := o7.TO
  have h3 := o7.i1
  have h4 := o7.i2
  rcases hm with rfl | rfl | rfl | rfl
  · exact Nat.lt_irrefl _ (Nat.lt_trans h h1)
  · exact Nat.lt_irrefl _ (Nat.lt_trans h h2)
  · exact Nat.lt_irrefl _ (Nat.lt_trans h h3)
  · exact Nat.lt_irrefl _ (Nat.lt_trans h h4)
end
section
variable {prog : Program} {w : World} {A : Around} {E : Value → Shared → Prop} {s : Shared} {p q : Bool} {z TI TO i1 i2 l1 l2 : Addr} {xs ys : Array Value}
end
end Pk

end
section
set_option Elab.async false
set_option linter.all false
set_option maxRecDepth 100000
set_option maxHeartbeats 2000000
namespace Pk
open PySem PySem.Spec PyProof.Rows L2 Pi
def spI0 (C : Addr) (f : Str) : Sp := fun vs H Q E => ∃ (a : Addr), vs = [.ref a] ∧ H a = some (exo a C none) ∧ ∀ (T : Addr) (o : Obj) (dx : Addr), H T = none → o.dict = none → (upd H T (tuO o [])) dx = none → dx ≠ a → Q .non (upd (upd (upd H T (tuO o [])) dx (exd dx [(f, .ref T)])) a (exo a C (some dx)))
def isInit0 (x f : Str) : List Stmt → Bool
  | [.Assign [.Attribute (.Name y _) g _] (.Tuple [] _ _) _] => decide (y = x) && decide (g = f) && !(x == ("__debug__" : Str)) && !(x == ("__classdict__" : Str))
  | _ => false
theorem init0_ok {P : Program} {w : World} {K : PySem.W.Frag} {mg : Str → Option Value} {base : Heap} {nm qual x f : Str} {st : Stmt} {C fI : Addr} {fd : FuncData} (T : OexC K C) (hno : PySem.W.findIn K (.ref C) f = some none) (F : L2.Fun K nm qual st fI fd)
    (hsc : C8.scC [x] [x] (defScope st) = true) (hb : isInit0 x f (defBody st) = true) (k : Nat) : FnOk P w K mg base L2.CX0 (k + 1) fI fd [x] (spI0 C f) := by
  have S := C8.fnScope_by hsc
  refine L2.Fun.ok (N := [x]) F S (fun vs H Q E ⟨a, e, _⟩ => by rw [e]; rfl) fun cdv A outer s H vs Q E hr ⟨a, e, ha, g⟩ => ?_
  subst e
  generalize hB : defBody st = B at hb
  unfold isInit0 at hb
  split at hb
  · rename_i y p1 g1 p2 kk p3 p4
    simp only [Bool.and_eq_true, decide_eq_true_eq, Bool.not_eq_true'] at hb
    obtain ⟨⟨⟨rfl, rfl⟩, d1⟩, d2⟩ := hb
    have vis : ∀ u, u ∈ [y] → Vis (defScope st) u := fun u hu => (S.par u hu).elim .inl fun e => .inr (.inl e)
    refine ⟨_, pss_one (ps_ost (X := (cxOf L2.CX0 P w K mg base [y] qual (defScope st) fI cdv A outer s H E).nox) (pe_var (i := 0) rfl (vis y (by simp)) d1 d2) (pe_tupK pa_nil) rfl), ?_⟩
    refine ⟨Nat.zero_le _, fun Tp o np od => ⟨.ref a, rfl, a, C, rfl, T, hno, .inl ⟨?_, fun dx nd ne => g Tp o dx np od nd ne⟩⟩⟩
    rw [upd_ne (fun z => by subst z; rw [ha] at np; cases np)]
    exact ha
  · cases hb
end Pk

end
section
set_option Elab.async false
set_option linter.all false
set_option maxRecDepth 100000
set_option maxHeartbeats 1000000
namespace Pk
open PySem PySem.Spec PyProof.Rows L2 Pi
section
variable {prog : Program} {w : World} {A : Around} {E : Value → Shared → Prop} {s : Shared}
end
section
variable {X : Cx}
end
end Pk

end
section
set_option Elab.async false
set_option linter.all false
set_option maxRecDepth 100000
set_option maxHeartbeats 1000000
namespace Pk
open PySem PySem.Spec PyProof.Rows L2 Pi
section
variable {prog : Program} {w : World} {A : Around} {E : Value → Shared → Prop} {s : Shared} {z TI TO i1 i2 : Addr} {fp1 fp2 : List Addr} {n1 n2 i : Nat} {P1 P2 : Nat → Value → Prop} {St1 St2 : Nat → Heap → Prop} {a1 a2 : Value}
abbrev IsZipR (h : Heap) (z TI TO : Addr) (f0 : Value) (f1 : Bool) : Prop :=
  h.get? z = some { cls := .type "zip", dict := none, data := .fields #[f0, .bool f1, .bool false, .ref TI, .ref TO], slots := #[] }
def ZipAny (h : Heap) (z TI TO : Addr) : Prop := (∃ f1, IsZipR h z TI TO .none f1) ∨ ∃ (T : Addr) (f1 : Bool), IsZipR h z TI TO (rawInt T) f1
theorem ZipAny.there {h : Heap} (q : ZipAny h z TI TO) : ∃ o vs, h.get? z = some o ∧ o.data = .fields vs ∧ o.cls = .type "zip" := by
  rcases q with ⟨f1, q⟩ | ⟨T, f1, q⟩
  · exact ⟨_, _, q, rfl, rfl⟩
  · exact ⟨_, _, q, rfl, rfl⟩
theorem ZipAny.keep {h h' : Heap} (q : ZipAny h z TI TO) (k : ∀ o, h.get? z = some o → h'.get? z = some o) : ZipAny h' z TI TO := by
  rcases q with ⟨f1, q⟩ | ⟨T, f1, q⟩
  · exact .inl ⟨f1, k _ q⟩
  · exact .inr ⟨T, f1, k _ q⟩
end
section
variable {prog : Program} {w : World} {A : Around} {E : Value → Shared → Prop} {s : Shared} {z TI TO i1 i2 : Addr} {fp1 fp2 : List Addr} {n1 n2 i : Nat} {P1 P2 : Nat → Value → Prop} {St1 St2 : Nat → Heap → Prop}
end
end Pk

end
section
set_option Elab.async false
set_option linter.all false
set_option maxRecDepth 100000
set_option maxHeartbeats 1000000
namespace Pk
open PySem PySem.Spec PyProof.Rows L2 Pi
end Pk

end
section
set_option Elab.async false
set_option linter.all false
set_option maxRecDepth 100000
set_option maxHeartbeats 1000000
namespace Pk
open PySem PySem.Spec PyProof.Rows L2 Pi
end Pk

end
section
set_option Elab.async false
set_option linter.all false
set_option maxRecDepth 100000
set_option maxHeartbeats 1000000
namespace Pk
open PySem PySem.Spec PyProof.Rows L2
section
variable {X : Cx} {pins : List (Addr × Obj)} {σ : L2.St} {H : Hp} {s : Shared}
end
end Pk

end
section
set_option Elab.async false
set_option linter.all false
set_option maxRecDepth 100000
set_option maxHeartbeats 2000000
namespace Pk
open PySem PySem.Spec PyProof.Rows L2
section
variable {X : Cx}
def tExn (C : Addr) (f : Str) (te : TE) : TE := fun σ H Q => te σ H fun v H1 => ∀ a dx, H1 a = none → H1 dx = none → dx ≠ a → Q (.ref a) (upd (upd H1 dx (exd dx [(f, v)])) a (exo a C (some dx)))
def rIsV (K : PySem.W.Frag) : List V → Hp → VK → Prop := fun xs H Q => ∃ (D a dd : Addr) (fs : List (Str × V)) (c : V) (cv : Value) (b : Bool), ExcC K D ∧ xs = [.ref a, c] ∧ H a = some (exo a D (some dd)) ∧ H dd = some (exd dd fs) ∧
  (∀ u, RelV c u → u = cv) ∧ PySem.W.kitOne K (.ref D) cv = some b ∧ Q (.bl b) H
theorem call_isV : CallR X (.builtin "isinstance") (rIsV X.K) := by
  intro pins s σ H xs us Q I r ⟨D, a, dd, fs, c, cv, b, C, ex, ea, ed, hcv, e, q⟩
  subst ex
  obtain ⟨u1, u2, rfl, r1, r2⟩ := vals2 r
  obtain rfl : u1 = Value.ref a := r1
  obtain rfl := hcv _ r2
  obtain ⟨t0, ha⟩ := exo_at I.hok ea
  obtain ⟨mA, hns, _⟩ := exd_at I.hok ed
  obtain ⟨od, es, ep, ho, _⟩ := hns
  have inst : PySem.W.InstAt s.heap a _ D (some od) := ⟨ha, rfl, rfl, ho⟩
  have cls : (PySem.W.clsIn X.K D).isSome = true := by
    obtain ⟨cd, hc, _⟩ := PySem.W.any_some C.hd
    rw [hc]; rfl
  exact PySem.W.kia_one (PySem.W.kitx_exc cls C.hg C.hk C.hs C.ha C.hn C.ht C.hm) I.kIn inst e (fun z => nomatch z) fun tk => ⟨.bl b, H, I.kept (t' := tk) fun _ _ z => z, rfl, q⟩
def tXfV (K : PySem.W.Frag) (n : Str) (te : TE) : TE := fun σ H Q => te σ H fun x H1 => ∃ (a C dd : Addr) (fs : List (Str × V)) (v : V), x = .ref a ∧ XfC K C ∧ PySem.W.findIn K (.ref C) n = some none ∧ H1 a = some (exo a C (some dd)) ∧ H1 dd = some (exd dd fs) ∧ fs.lookup n = some v ∧ Q v H1
theorem pe_xfV {e : Expr} {te : TE} {pos : Pos} {n : Str} (he : PE X e te) (hb : attributeBase e n X.env (eval e X.env) = eval e X.env) : PE X (.Attribute e n pos) (tXfV X.K n te) := by
  refine ⟨fun pins s σ H Q I h => attr_of hb (thn (he.run pins s σ H _ I h) fun u s1 ⟨x, H1, I1, rx, a, C, dd, fs, v, ex, T, hno, ea, ed, l, q⟩ => ?_)⟩
  subst ex
  obtain rfl : u = Value.ref a := rx
  obtain ⟨t0, ha⟩ := exo_at I1.hok ea
  obtain ⟨mA, hns, hr⟩ := exd_at I1.hok ed
  obtain ⟨od, ho, hl⟩ := lookIn_ns hns
  obtain ⟨w, hw, rw_⟩ := RelO.some_of (v := v) (o := mA n) (by rw [← l]; exact hr n)
  have inst : PySem.W.InstAt s1.heap a _ C (some od) := ⟨ha, rfl, rfl, ho⟩
  exact HandSPX.exc_get I1.kIn inst T.ga T.gg T.exC (PySem.W.findObj_own T.hdC hno rfl (by rw [hl, hw])) (handed_of rw_) ⟨v, H1, I1.tok _, rw_, q⟩
theorem pe_exn {CX : CXT} {x : Str} {C fI : Addr} {k : Nat} {fd : FuncData} {ps : List Str} {e : Expr} {te : TE} {f : Str} {p pos : Pos} (T : OexC X.K C) (iC : PySem.W.findIn X.K (.ref C) "__init__" = some (some (.ref fI))) (tI : PySem.W.typeIn X.K (.ref fI) = some (.type "function"))
    (F1 : FnOk X.prog X.w X.K X.mg X.base CX k fI fd ps (spI C f)) (hr : Room (k + 1) X.A) (hb : Binds X.K fd ps []) (hx : Passes CX X (fun _ _ _ => False)) (hg : Gl X x) (hm : X.mg x = some (.ref C)) (he : PE X e te) (hdb : (x == ("__debug__" : Str)) = false)
    (hs : starEach [e] X.env = (false, eval e X.env) :: starEach [] X.env) : PE X (.Call (.Name x p) [e] [] pos) (tExn C f te) := by
  have ha := pa_cons he (pa_nil (X := X)) hs
  refine ⟨fun pins s σ H Q I h => ?_⟩
  obtain ⟨nm, q, N, bs, bm, sn, sub, ab, col, dd, k0, k1, k2, k3, k5, hC, hbm⟩ := T.cls
  refine wpAny_Call_Name_kw (ld_glob I hg hm ?_ hdb)
  refine PySem.W.callWith_K (h₀ := X.base) I.ok.mod.kin T.kC (thn (ha.run pos pins s σ H (fun vs H1 => match vs with | [v] => ∀ a dx, H1 a = none → H1 dx = none → dx ≠ a → Q (.ref a) (upd (upd H1 dx (exd dx [(f, v)])) a (exo a C (some dx))) | _ => False) I h) fun us s1 ⟨vs, H1, I1, r1, q1⟩ => ⟨I1.kIn, ?_⟩) hs rfl
  show wpAny _ _ (call (.ref C) us) _ _ _
  cases vs with
  | nil => exact q1.elim
  | cons v vs =>
  cases vs with
  | cons v2 vs => exact q1.elim
  | nil =>
  obtain ⟨hp, g, dr, tk, os⟩ := s1
  have hsz : hp.objs.size ≤ hp.objs.size + 1 := Nat.le_succ _
  have hn : H1 (hp.objs.size + 1) = none := I1.hok.fresh hsz
  have kk : ∀ b o, hp.get? b = some o → ((hp.push (PySem.W.kdv_tup us)).push (PySem.HandSPX.excO C hp.objs.size)).get? b = some o := fun b o e => Heap.get?_push_of_some _ (Heap.get?_push_of_some _ e)
  have hget : ((hp.push (PySem.W.kdv_tup us)).push (PySem.HandSPX.excO C hp.objs.size)).get? (hp.objs.size + 1) = some (PySem.HandSPX.excO C hp.objs.size) := by heap_get
  have I2 : Inv X pins σ (upd H1 (hp.objs.size + 1) (exo (hp.objs.size + 1) C none)) ⟨(hp.push (PySem.W.kdv_tup us)).push (PySem.HandSPX.excO C hp.objs.size), g, dr, tk, os⟩ :=
    I1.laid (t' := tk) (a := hp.objs.size + 1) (o := exo (hp.objs.size + 1) C none) (h' := (hp.push (PySem.W.kdv_tup us)).push (PySem.HandSPX.excO C hp.objs.size)) kk hsz (exo_ok hget)
  have r2 : Vals (V.ref (hp.objs.size + 1) :: [v]) (Value.ref (hp.objs.size + 1) :: us) := .cons rfl r1
  have hq : spI C f (V.ref (hp.objs.size + 1) :: [v]) (upd H1 (hp.objs.size + 1) (exo (hp.objs.size + 1) C none))
      (fun w H2 => w = .non ∧ Q (.ref (hp.objs.size + 1)) H2) (fun _ _ _ => False) := by
    refine ⟨hp.objs.size + 1, v, rfl, upd_same, fun dx nd ne => ⟨rfl, ?_⟩⟩
    have e : upd (upd (upd H1 (hp.objs.size + 1) (exo (hp.objs.size + 1) C none)) dx (exd dx [(f, v)])) (hp.objs.size + 1) (exo (hp.objs.size + 1) C (some dx)) = upd (upd H1 dx (exd dx [(f, v)])) (hp.objs.size + 1) (exo (hp.objs.size + 1) C (some dx)) := by
      funext b
      by_cases c : b = hp.objs.size + 1
      · subst c; rw [upd_same, upd_same]
      · rw [upd_ne c, upd_ne c]
        by_cases c2 : b = dx
        · subst c2; rw [upd_same, upd_same]
        · rw [upd_ne c2, upd_ne c2, upd_ne c]
    rw [e]
    rw [upd_ne ne] at nd
    exact q1 _ _ hn nd ne
  have hl : (Value.ref (hp.objs.size + 1) :: us ++ []).length = ps.length := by
    have e := r2.length
    rw [F1.len _ _ _ _ hq] at e
    rw [List.append_nil]
    exact e.symm
  have hbd := hb ⟨(hp.push (PySem.W.kdv_tup us)).push (PySem.HandSPX.excO C hp.objs.size), g, dr, tk, os⟩ (Value.ref (hp.objs.size + 1) :: us) I2.kIn hl
  rw [List.append_nil] at hbd
  have hus : us.length ≤ sizeLine := by
    rw [← Paired.length r1, sizeLine_eq]
    show 1 ≤ _
    omega
  refine wpAny_call (PySem.HandSPX.call_own PySem.F.excBase_ValueError (fun Y => PySem.HandSPX.refsVE_contains Y bm hbm) (I1.kIn _ _ hC) (PySem.W.looks_findIn I1.kIn iC) (fun self => PySem.W.bind_fn I1.kIn self tI) hus
    (codeAny_mono (F1.run _ X.stack _ _ ⟨Value.ref (hp.objs.size + 1) :: us, []⟩ (Value.ref (hp.objs.size + 1) :: us) _ _ (fun _ _ _ => False) (hr.make C us []) (I2.env0.make C us []) hbd r2 hq) fun r s' hq' => ?_))
  cases r with
  | error er => exact hx pins σ _ _ er s' I2 hq'
  | ok fl =>
    cases fl with
    | ret u =>
      obtain ⟨w, H2, J, rv, ev, q2⟩ := I2.after (Q := fun w H2 => w = .non ∧ Q (.ref (hp.objs.size + 1)) H2) hq'
      subst ev
      exact ⟨rv, .ref (hp.objs.size + 1), H2, J, rfl, q2⟩
    | next => exact False.elim hq'
    | brk => exact False.elim hq'
    | cont => exact False.elim hq'
end
end Pk

end
section
set_option Elab.async false
set_option linter.all false
set_option maxRecDepth 100000
set_option maxHeartbeats 4000000
namespace PySem
namespace HandSPX
open PySem.W PySem.Calls PyProof.Rows
section
variable {prog : Program} {w : World} {A : Around} {E : Value → Shared → Prop} {R : Result → Shared → Prop} {h : Heap} {g : Array GenState} {d : Drawn} {t : Nat} {os : OsState}
variable {nm q : Str} {C N : Addr} {bs bm bmB : List Value} {hdct : Bool} {sn : List Str} {sub : List Value} {ab : Bool} {col : Option Bool} {dd : Option Addr} {k0 k1 k2 k3 k5 : Option Value} {B newId initId : String}
theorem chkTyK {M : Model} {pn : Str} {u : Value} {Q : Unit → Shared → Prop} (hC : h.get? C = some (excClassObj nm q C N bs bm hdct sn sub ab col dd k0 k1 k2 k3 k5 newId))
    (hq : Q () ⟨h, g, d, t, os⟩) : wpAny M A (checkBuiltinCall "type.__call__" ⟨[.ref C], [(pn, u)]⟩) Q E ⟨h, g, d, t, os⟩ := by
  have z3 := tc_sub
  have zT : (⟨h, g, d, t, os⟩ : Shared).TypeIs (.ref C) "type" := ⟨_, hC, rfl⟩
  simp only [checkBuiltinCall, tc_kind, tc_split]
  repeat (any_goals (first | assumption | with_reducible refine wpAny_loadPart_at hC ?_ | with_reducible refine wpAny_onRaise ?_ | with_reducible refine wpAny_map ?_ | wp_step))
theorem chkNewK {M : Model} (F : ExcBaseFacts B newId initId bmB) (hT : ∀ X : String, bm.contains (.type X) = bmB.contains (.type X)) {pn : Str} {u : Value} {Q : Unit → Shared → Prop}
    (hC : h.get? C = some (excClassObj nm q C N bs bm hdct sn sub ab col dd k0 k1 k2 k3 k5 newId)) (hq : Q () ⟨h, g, d, t, os⟩) : wpAny M A (checkBuiltinCall newId ⟨[.ref C], [(pn, u)]⟩) Q E ⟨h, g, d, t, os⟩ := by
  have zc : (Value.ref C :: bm).contains (.type B) = true := by rw [List.contains_cons, hT, F.hasB, Bool.or_true]
  have zs := F.noStar
  simp only [checkBuiltinCall, F.newKind, F.newSplit, F.newRow]
  repeat (first | refine wpAny_loadPart_at hC ?_ | (refine wpAny_isSubtype_exc hC ?_; rw [zc]) | refine wpAny_staticBase_exc hC ?_ | refine wpAny_madeBy_exc hC ?_ | simp only [bne_self_eq_false, Bool.false_eq_true, if_false] | wp_step)
  exact hq
theorem mkNewK (F : ExcBaseFacts B newId initId bmB) (hT : ∀ X : String, bm.contains (.type X) = bmB.contains (.type X)) {pn : Str} {u : Value}
    (hC : h.get? C = some (excClassObj nm q C N bs bm hdct sn sub ab col dd k0 k1 k2 k3 k5 newId)) (hq : R (.ok (.ret (.ref (h.objs.size + 1)))) ⟨(h.push (W.kdv_tup [])).push (excO C h.objs.size), g, d, t, os⟩) :
    codeAny (model prog w) A (.builtin newId ⟨[.ref C], [(pn, u)]⟩) R ⟨h, g, d, t, os⟩ := by
  have z0 := F.ends
  have zB : (Value.ref C :: bm).contains (.type B) = true := by rw [List.contains_cons, hT, F.hasB, Bool.or_true]
  have zA : (Value.ref C :: bm).contains (.type "AttributeError") = false := by rw [List.contains_cons, hT, F.noAttr]; rfl
  have zN : (Value.ref C :: bm).contains (.type "NameError") = false := by rw [List.contains_cons, hT, F.noName]; rfl
  refine codeAny_builtinAt F.entry ?_
  unfold Builtin.«BaseException.__new__»
  refine wpAt_bind ?_
  show wpAt _ _ _ (stack >>= _) _ _ _
  refine wpAt_bind (wpAt_stack fun p below => wpAt_of_wpAny ?_)
  wp_walk
  refine wpAt_of_wpAny ?_
  rw [F.owner]
  repeat (first | with_reducible refine wpAny_madeHere_exc F.canon hC ?_ | with_reducible refine wpAny_loadPart_at hC ?_ | (with_reducible refine wpAny_isSubtype_exc hC ?_; first | rw [zB] | rw [zA] | rw [zN]) | wp_step)
  show R _ _
  rw [Heap.size_push]
  exact hq
theorem tyCallK (F : ExcBaseFacts B newId initId bmB) (hT : ∀ X : String, bm.contains (.type X) = bmB.contains (.type X)) {pn : Str} {u : Value} {fI : Addr} {Q : Fin → Shared → Prop}
    (hC : h.get? C = some (excClassObj nm q C N bs bm hdct sn sub ab col dd k0 k1 k2 k3 k5 newId))
    (hi : W.Looks (model prog w) h (typeLookup (.ref C) "__init__") (some (.ref fI))) (hb : ∀ self, W.Looks (model prog w) h (bindSpecial (.ref fI) self) (.ref fI, [self]))
    (hq : codeAny (model prog w) A (.call (.ref fI) ⟨[.ref (h.objs.size + 1)], [(pn, u)]⟩)
      (fun r s' => match r with | .ok (.ret v) => v = .none ∧ Q (.done (.ret (.ref (h.objs.size + 1)))) s' | .ok _ => False | .error e => E e s')
      ⟨(h.push (W.kdv_tup [])).push (excO C h.objs.size), g, d, t, os⟩) :
    wpAny (model prog w) A (Builtin.«type.__call__» ⟨[.ref C], [(pn, u)]⟩) Q E ⟨h, g, d, t, os⟩ := by
  have kk : ∀ b o, h.get? b = some o → ((h.push (W.kdv_tup [])).push (excO C h.objs.size)).get? b = some o := fun b o e => Heap.get?_push_of_some _ (Heap.get?_push_of_some _ e)
  have gE : ((h.push (W.kdv_tup [])).push (excO C h.objs.size)).get? (h.objs.size + 1) = some (excO C h.objs.size) := by heap_get
  have zC : (Value.ref C :: bm).contains (.ref C) = true := by simp
  have iK := hi.keeps kk
  have bK := (hb (.ref (h.objs.size + 1))).keeps kk
  have hC2 := kk _ _ hC
  repeat (first | with_reducible refine wpAny_loadPart_at hC ?_ | with_reducible refine wpAny_madeBy_exc hC ?_ | wp_step)
  refine codeAny_call_builtin_code (Code.quiet_builtin _ F.quiet) (chkNewK F hT hC ?_)
  refine mkNewK F hT hC ?_
  show wpAny _ _ _ _ _ _
  unfold isInstance
  repeat (first | with_reducible refine wpAny_loadPart_at gE ?_ | (with_reducible refine wpAny_isSubtype_exc hC2 ?_; rw [zC]) | wp_step)
  show wpAny _ _ (typeLookup (.ref C) _) _ _ _
  refine iK.at ?_
  refine wpAny_holding (wpAny_bind (bK.at ?_))
  refine wpAny_bind (wpAny_call (codeAny_mono hq fun r s' z => ?_))
  cases r with
  | error e => exact z
  | ok fl =>
    cases fl with
    | ret v =>
      obtain ⟨rfl, z⟩ := z
      first
        | exact wpAny_pure (wpAny_pure z)
        | (wp_walk; exact z)
    | next => exact z.elim
    | brk => exact z.elim
    | cont => exact z.elim
theorem callK (F : ExcBaseFacts B newId initId bmB) (hT : ∀ X : String, bm.contains (.type X) = bmB.contains (.type X)) {pn : Str} {u : Value} {fI : Addr}
    (hC : h.get? C = some (excClassObj nm q C N bs bm hdct sn sub ab col dd k0 k1 k2 k3 k5 newId))
    (hi : W.Looks (model prog w) h (typeLookup (.ref C) "__init__") (some (.ref fI))) (hb : ∀ self, W.Looks (model prog w) h (bindSpecial (.ref fI) self) (.ref fI, [self]))
    (hq : codeAny (model prog w) (A.under (.builtin "type.__call__" ⟨[.ref C], [(pn, u)]⟩)) (.call (.ref fI) ⟨[.ref (h.objs.size + 1)], [(pn, u)]⟩) (W.InitBack (h.objs.size + 1) R)
      ⟨(h.push (W.kdv_tup [])).push (excO C h.objs.size), g, d, t, os⟩) :
    codeAny (model prog w) A (.call (.ref C) ⟨[], [(pn, u)]⟩) R ⟨h, g, d, t, os⟩ := by
  have z1 := tc_lookup
  have z2 := tc_bind (.ref C)
  have zT : (⟨h, g, d, t, os⟩ : Shared).TypeIs (.ref C) "type" := ⟨_, hC, rfl⟩
  refine codeAny_of_tree ?_
  show wpAny _ _ (callAny (.ref C) _) _ _ _
  repeat (any_goals (first | assumption | with_reducible refine wpAny_loadPart_at hC ?_ | wp_step))
  refine ⟨rfl, ?_⟩
  refine codeAny_call_builtin_at (Code.quiet_builtin _ (by decide +kernel)) entry_typeCall (chkTyK hC (tyCallK F hT hC hi hb ?_))
  refine codeAny_mono hq fun r s' z => ?_
  cases r with
  | error e => exact z
  | ok fl => cases fl <;> exact z
end
end HandSPX
end PySem

end
section
set_option Elab.async false
set_option linter.all false
set_option maxRecDepth 100000
set_option maxHeartbeats 2000000
namespace Pk
open PySem PySem.Spec PyProof.Rows L2 Pi
section
variable {X : Cx}
theorem pe_exnK {CX : CXT} {x pn : Str} {C fI : Addr} {k : Nat} {fd : FuncData} {ps : List Str} {e : Expr} {te : TE} {f : Str} {p pos kpos : Pos} (T : OexC X.K C) (iC : PySem.W.findIn X.K (.ref C) "__init__" = some (some (.ref fI))) (tI : PySem.W.typeIn X.K (.ref fI) = some (.type "function"))
    (F1 : FnOk X.prog X.w X.K X.mg X.base CX k fI fd ps (spI C f)) (hr : Room (k + 1) X.A) (hb : ∀ (s : Shared) (a u : Value), X.K.In s.heap → BindsTo s fd ⟨[a], [(pn, u)]⟩ (ps.zip [a, u])) (hx : Passes CX X (fun _ _ _ => False)) (hg : Gl X x) (hm : X.mg x = some (.ref C)) (he : PE X e te) (hdb : (x == ("__debug__" : Str)) = false) :
    PE X (.Call (.Name x p) [] [⟨some pn, e, kpos⟩] pos) (tExn C f te) := by
  have hk : PK X [⟨some pn, e, kpos⟩] (tCons te tNil) := pk_cons he pk_nil
  refine ⟨fun pins s σ H Q I h => ?_⟩
  obtain ⟨nm, q, N, bs, bm, sn, sub, ab, col, dd, k0, k1, k2, k3, k5, hC, hbm⟩ := T.cls
  refine wpAny_Call_Name_kw (ld_glob I hg hm ?_ hdb)
  refine PySem.W.callWith_KW0 (h₀ := X.base) I.ok.mod.kin T.kC rfl (thn (hk.run pos pins s σ H (fun vs H1 => match vs with | [v] => ∀ a dx, H1 a = none → H1 dx = none → dx ≠ a → Q (.ref a) (upd (upd H1 dx (exd dx [(f, v)])) a (exo a C (some dx))) | _ => False) I h) fun us s1 ⟨vs, H1, I1, r1, q1⟩ => ⟨I1.kIn, ?_⟩) rfl
  show wpAny _ _ (call (.ref C) [] ([pn].zip us)) _ _ _
  cases vs with
  | nil => exact q1.elim
  | cons v vs =>
  cases vs with
  | cons v2 vs => exact q1.elim
  | nil =>
  cases us with
  | nil => cases r1
  | cons u us =>
  cases us with
  | cons u2 us => cases r1 with | cons _ r => cases r
  | nil =>
  have ru : RelV v u := by cases r1 with | cons r _ => exact r
  show wpAny _ _ (call (.ref C) [] [(pn, u)]) _ _ _
  obtain ⟨hp, g, dr, tk, os⟩ := s1
  have hsz : hp.objs.size ≤ hp.objs.size + 1 := Nat.le_succ _
  have hn : H1 (hp.objs.size + 1) = none := I1.hok.fresh hsz
  have kk : ∀ b o, hp.get? b = some o → ((hp.push (PySem.W.kdv_tup [])).push (PySem.HandSPX.excO C hp.objs.size)).get? b = some o := fun b o e => Heap.get?_push_of_some _ (Heap.get?_push_of_some _ e)
  have hget : ((hp.push (PySem.W.kdv_tup [])).push (PySem.HandSPX.excO C hp.objs.size)).get? (hp.objs.size + 1) = some (PySem.HandSPX.excO C hp.objs.size) := by heap_get
  have I2 : Inv X pins σ (upd H1 (hp.objs.size + 1) (exo (hp.objs.size + 1) C none)) ⟨(hp.push (PySem.W.kdv_tup [])).push (PySem.HandSPX.excO C hp.objs.size), g, dr, tk, os⟩ :=
    I1.laid (t' := tk) (a := hp.objs.size + 1) (o := exo (hp.objs.size + 1) C none) (h' := (hp.push (PySem.W.kdv_tup [])).push (PySem.HandSPX.excO C hp.objs.size)) kk hsz (exo_ok hget)
  have r2 : Vals [V.ref (hp.objs.size + 1), v] [Value.ref (hp.objs.size + 1), u] := .cons rfl (.cons ru .nil)
  have hq : spI C f [V.ref (hp.objs.size + 1), v] (upd H1 (hp.objs.size + 1) (exo (hp.objs.size + 1) C none))
      (fun w H2 => w = .non ∧ Q (.ref (hp.objs.size + 1)) H2) (fun _ _ _ => False) := by
    refine ⟨hp.objs.size + 1, v, rfl, upd_same, fun dx nd ne => ⟨rfl, ?_⟩⟩
    have e : upd (upd (upd H1 (hp.objs.size + 1) (exo (hp.objs.size + 1) C none)) dx (exd dx [(f, v)])) (hp.objs.size + 1) (exo (hp.objs.size + 1) C (some dx)) = upd (upd H1 dx (exd dx [(f, v)])) (hp.objs.size + 1) (exo (hp.objs.size + 1) C (some dx)) := by
      funext b
      by_cases c : b = hp.objs.size + 1
      · subst c; rw [upd_same, upd_same]
      · rw [upd_ne c, upd_ne c]
        by_cases c2 : b = dx
        · subst c2; rw [upd_same, upd_same]
        · rw [upd_ne c2, upd_ne c2, upd_ne c]
    rw [e]
    rw [upd_ne ne] at nd
    exact q1 _ _ hn nd ne
  refine wpAny_call (PySem.HandSPX.callK PySem.F.excBase_ValueError (fun Y => PySem.HandSPX.refsVE_contains Y bm hbm) (I1.kIn _ _ hC) (PySem.W.looks_findIn I1.kIn iC) (fun self => PySem.W.bind_fn I1.kIn self tI)
    (codeAny_mono (F1.run _ X.stack _ _ ⟨[Value.ref (hp.objs.size + 1)], [(pn, u)]⟩ [Value.ref (hp.objs.size + 1), u] _ _ (fun _ _ _ => False) (hr.make C [] [(pn, u)]) (I2.env0.make C [] [(pn, u)]) (hb _ _ _ I2.kIn) r2 hq) fun r s' hq' => ?_))
  cases r with
  | error er => exact hx pins σ _ _ er s' I2 hq'
  | ok fl =>
    cases fl with
    | ret u =>
      obtain ⟨w, H2, J, rv, ev, q2⟩ := I2.after (Q := fun w H2 => w = .non ∧ Q (.ref (hp.objs.size + 1)) H2) hq'
      subst ev
      exact ⟨rv, .ref (hp.objs.size + 1), H2, J, rfl, q2⟩
    | next => exact False.elim hq'
    | brk => exact False.elim hq'
    | cont => exact False.elim hq'
def tExn0 (C : Addr) (f : Str) : TE := fun σ H Q => ∀ a Tp o dx, H a = none → H Tp = none → Tp ≠ a → o.dict = none → H dx = none → dx ≠ a → dx ≠ Tp → Q (.ref a) (upd (upd (upd H Tp (tuO o [])) dx (exd dx [(f, .ref Tp)])) a (exo a C (some dx)))
theorem pe_exn0 {CX : CXT} {x : Str} {C fI : Addr} {k : Nat} {fd : FuncData} {ps : List Str} {f : Str} {p pos : Pos} (T : OexC X.K C) (iC : PySem.W.findIn X.K (.ref C) "__init__" = some (some (.ref fI))) (tI : PySem.W.typeIn X.K (.ref fI) = some (.type "function"))
    (F1 : FnOk X.prog X.w X.K X.mg X.base CX k fI fd ps (spI0 C f)) (hr : Room (k + 1) X.A) (hb : Binds X.K fd ps []) (hx : Passes CX X (fun _ _ _ => False)) (hg : Gl X x) (hm : X.mg x = some (.ref C)) (hdb : (x == ("__debug__" : Str)) = false) :
    PE X (.Call (.Name x p) [] [] pos) (tExn0 C f) := by
  refine ⟨fun pins s σ H Q I q1 => ?_⟩
  obtain ⟨nm, q, N, bs, bm, sn, sub, ab, col, dd, k0, k1, k2, k3, k5, hC, hbm⟩ := T.cls
  refine wpAny_Call_Name_kw (ld_glob I hg hm ?_ hdb)
  refine PySem.W.callWith_K0 I.kIn T.kC ?_
  show wpAny _ _ (call (.ref C) []) _ _ _
  obtain ⟨hp, g, dr, tk, os⟩ := s
  have hsz : hp.objs.size ≤ hp.objs.size + 1 := Nat.le_succ _
  have hn : H (hp.objs.size + 1) = none := I.hok.fresh hsz
  have kk : ∀ b o, hp.get? b = some o → ((hp.push (PySem.W.kdv_tup [])).push (PySem.HandSPX.excO C hp.objs.size)).get? b = some o := fun b o e => Heap.get?_push_of_some _ (Heap.get?_push_of_some _ e)
  have hget : ((hp.push (PySem.W.kdv_tup [])).push (PySem.HandSPX.excO C hp.objs.size)).get? (hp.objs.size + 1) = some (PySem.HandSPX.excO C hp.objs.size) := by heap_get
  have I2 : Inv X pins σ (upd H (hp.objs.size + 1) (exo (hp.objs.size + 1) C none)) ⟨(hp.push (PySem.W.kdv_tup [])).push (PySem.HandSPX.excO C hp.objs.size), g, dr, tk, os⟩ :=
    I.laid (t' := tk) (a := hp.objs.size + 1) (o := exo (hp.objs.size + 1) C none) (h' := (hp.push (PySem.W.kdv_tup [])).push (PySem.HandSPX.excO C hp.objs.size)) kk hsz (exo_ok hget)
  have r2 : Vals [V.ref (hp.objs.size + 1)] [Value.ref (hp.objs.size + 1)] := .cons rfl .nil
  have hq : spI0 C f [V.ref (hp.objs.size + 1)] (upd H (hp.objs.size + 1) (exo (hp.objs.size + 1) C none))
      (fun w H2 => w = .non ∧ Q (.ref (hp.objs.size + 1)) H2) (fun _ _ _ => False) := by
    refine ⟨hp.objs.size + 1, rfl, upd_same, fun Tp o dx nT od nd ne => ⟨rfl, ?_⟩⟩
    have nTa : Tp ≠ hp.objs.size + 1 := fun z => by rw [z, upd_same] at nT; cases nT
    rw [upd_ne nTa] at nT
    have ndT : dx ≠ Tp := fun z => by rw [z, upd_same] at nd; cases nd
    rw [upd_ne ndT, upd_ne ne] at nd
    have e : upd (upd (upd (upd H (hp.objs.size + 1) (exo (hp.objs.size + 1) C none)) Tp (tuO o [])) dx (exd dx [(f, .ref Tp)])) (hp.objs.size + 1) (exo (hp.objs.size + 1) C (some dx)) = upd (upd (upd H Tp (tuO o [])) dx (exd dx [(f, .ref Tp)])) (hp.objs.size + 1) (exo (hp.objs.size + 1) C (some dx)) := by
      funext b
      by_cases c : b = hp.objs.size + 1
      · subst c; rw [upd_same, upd_same]
      · rw [upd_ne c, upd_ne c]
        by_cases c2 : b = dx
        · subst c2; rw [upd_same, upd_same]
        · rw [upd_ne c2, upd_ne c2]
          by_cases c3 : b = Tp
          · subst c3; rw [upd_same, upd_same]
          · rw [upd_ne c3, upd_ne c3, upd_ne c]
    rw [e]
    exact q1 _ _ _ _ hn nT nTa od nd ne ndT
  have hl : (Value.ref (hp.objs.size + 1) :: ([] : List Value) ++ []).length = ps.length := by
    have e := r2.length
    rw [F1.len _ _ _ _ hq] at e
    exact e.symm
  refine wpAny_call (PySem.HandSPX.call_own PySem.F.excBase_ValueError (fun Y => PySem.HandSPX.refsVE_contains Y bm hbm) (I.kIn _ _ hC) (PySem.W.looks_findIn I.kIn iC) (fun self => PySem.W.bind_fn I.kIn self tI) (Nat.zero_le _)
    (codeAny_mono (F1.run _ X.stack _ _ ⟨[Value.ref (hp.objs.size + 1)], []⟩ [Value.ref (hp.objs.size + 1)] _ _ (fun _ _ _ => False) (hr.make C [] []) (I2.env0.make C [] []) (hb _ [Value.ref (hp.objs.size + 1)] I2.kIn hl) r2 hq) fun r s' hq' => ?_))
  cases r with
  | error er => exact hx pins σ _ _ er s' I2 hq'
  | ok fl =>
    cases fl with
    | ret u =>
      obtain ⟨w, H2, J, rv, ev, q2⟩ := I2.after (Q := fun w H2 => w = .non ∧ Q (.ref (hp.objs.size + 1)) H2) hq'
      subst ev
      exact ⟨rv, .ref (hp.objs.size + 1), H2, J, rfl, q2⟩
    | next => exact False.elim hq'
    | brk => exact False.elim hq'
    | cont => exact False.elim hq'
end
end Pk

end
section
set_option Elab.async false
set_option linter.all false
namespace Pi
open PySem
abbrev D := PyData
abbrev SL : Nat := 16777216
inductive Vl where | d (x : D) | fr (x : D) | rf (n : Nat)
inductive Slot where | no | sh (x : D) | ow (x : D) | lk (x : D) | rf (n : Nat) | kt (ys : List Str)
abbrev Sto := List (List D)
abbrev Ev := List Slot
inductive Bop where | add | sub | mul | fdiv | mod | pow deriving DecidableEq
inductive Cop where | eq | ne | lt | le | gt | ge | isin | notin deriving DecidableEq
inductive F1 where | len | tuple | list | int | abs | sum | all | any | max | min | sorted | sset | lset | str | srt1 deriving DecidableEq
inductive M1 where | join | split | count | lcnt | strip deriving DecidableEq
inductive F2 where | max | min deriving DecidableEq
inductive Ty where | list | tuple | bool | int | str deriving DecidableEq
mutual
inductive Tg where | n (i : Nat) | t (ts : Tgs)
inductive Tgs where | nil | cons (t : Tg) (ts : Tgs)
end
mutual
inductive E where
  | non | bl (b : Bool) | int (i : Int) | str (s : Str)
  | v (i : Nat) | g (i : Nat)
  | tup (es : Es) | lst (es : Es)
  | bin (op : Bop) (a b : E) | neg (a : E)
  | cmp (op : Cop) (a b : E)
  | isN (a : E) | isnN (a : E)
  | and (a b : E) | or (a b : E) | not (a : E)
  | ite (c a b : E)
  | ix (a i : E) | bx (i : Nat) (k : E) | sl (a : E) (lo hi : Oe) | exn (n f : Str) (a : E) | exk (n f : Str) (a : E) | exz (n f : Str) | xis (own : Bool) (z : Str) (xs : List (Str × Str)) (a : E) | xfd (f : Str) (xs : List (Str × Str)) (a : E)
  | call (f : Nat) (es : Es)
  | f1 (f : F1) (a : E) | f2 (f : F2) (a b : E)
  | isi (a : E) (ts : List Ty)
  | dnew (t : Bool)
  | lc (vs : List Nat) (e : E) (t : Tg) (it : It) (c : Oe)
inductive Es where | nil | cons (e : E) (es : Es) | star (e : E) (es : Es)
inductive Oe where | no | yes (e : E)
inductive It where | of (e : E) | rng1 (a : E) | rng2 (a b : E) | enm (a : E) | zip (a b : E)
end
def bnd {α β : Type} (r : Option (α × Sto)) (k : α → Sto → Option (β × Sto)) : Option (β × Sto) := match r with
  | some (a, s) => k a s
  | none => none
@[simp] theorem bnd_some {α β : Type} (a : α) (s : Sto) (k : α → Sto → Option (β × Sto)) : bnd (some (a, s)) k = k a s := rfl
@[simp] theorem bnd_none {α β : Type} (k : α → Sto → Option (β × Sto)) : bnd (none : Option (α × Sto)) k = none := rfl
theorem bnd_eq {α β : Type} {r : Option (α × Sto)} {k : α → Sto → Option (β × Sto)} {x : β × Sto} (h : bnd r k = some x) : ∃ a s, r = some (a, s) ∧ k a s = some x := by
  cases r with
  | none => cases h
  | some p => exact ⟨p.1, p.2, rfl, h⟩
def Vl.toD : Vl → Option D
  | .d x => some x
  | .fr x => some x
  | .rf _ => none
def toD (r : Option (Vl × Sto)) : Option (D × Sto) := bnd r fun w s => w.toD.map fun x => (x, s)
def look (env : Ev) (i : Nat) : Slot := env.getD i .no
def bor (e : E) (r : Option (Vl × Sto)) (env : Ev) (st : Sto) : Option (D × Sto) := match e with
  | .v i => (match look env i with
    | .sh x => some (x, st)
    | .ow x => some (x, st)
    | .lk x => some (x, st)
    | _ => none)
  | _ => toD r
def truD : D → Option Bool
  | .none => some false
  | .bool b => some b
  | .int i => some (i != 0)
  | .str s => if s.length ≤ SL then some (s.length != 0) else none
  | .list xs => some (!xs.isEmpty)
  | .tuple xs => some (!xs.isEmpty)
  | .dict _ => none
def ret {α : Type} (x : Option α) (st : Sto) : Option (α × Sto) := x.map fun a => (a, st)
def tru (r : Option (D × Sto)) : Option (Bool × Sto) := bnd r fun x s => ret (truD x) s
def addD : D → D → Option Vl
  | .int i, .int j => some (.d (.int (i + j)))
  | .str x, .str y => if x.length + y.length ≤ SL then some (.d (.str (x ++ y))) else none
  | .list xs, .list ys => if xs.length + ys.length ≤ SL then some (.fr (.list (xs ++ ys))) else none
  | .tuple xs, .tuple ys => if xs.length + ys.length ≤ SL then some (.d (.tuple (xs ++ ys))) else none
  | _, _ => none
def repD (xs : List D) (k : Int) : List D := (List.replicate k.toNat xs).flatten
def repStr (x : Str) (k : Int) : Str := if k < 1 then Str.empty else if (k == 1 || x.length == 0) = true then x else ⟨(List.replicate k.toNat x.cps).foldl (· ++ ·) #[]⟩
def mulD : D → D → Option Vl
  | .int i, .int j => if decide ((-(2 ^ 64) < i ∧ i < 2 ^ 64) ∨ (-(2 ^ 64) < j ∧ j < 2 ^ 64) ∨ i.natAbs.log2 + j.natAbs.log2 < 1000000) then some (.d (.int (i * j))) else none
  | .tuple xs, .int k => if decide (1 ≤ k ∧ k ≤ 1000 ∧ xs.length ≤ 1000 ∧ 0 < xs.length) then some (.d (.tuple (repD xs k))) else none
  | .str x, .int k => if decide (0 ≤ k ∧ k < 2 ^ 62 ∧ x.length * k.toNat ≤ SL) then some (.d (.str (repStr x k))) else none
  | .list xs, .int k => if decide (-(2 ^ 62) ≤ k ∧ k < 2 ^ 62 ∧ xs.length * k.toNat ≤ SL) then some (.fr (.list (repD xs k))) else none
  | _, _ => none
def fdivD (i j : Int) : Option Int :=
  if 0 < j then (if j.natAbs.log2 < 9000 then some (i / j) else none) else if j ≠ 0 ∧ j.natAbs.log2 < 9000 then some (i.fdiv j) else none
def modD (i j : Int) : Option Int := if 0 < j then some (i % j) else if j ≠ 0 then some (i.fmod j) else none
def powD (i j : Int) : Option Int := if decide (0 ≤ j ∧ j ≤ 1000000 ∧ i.natAbs < 2 ^ 64) then some (i ^ j.toNat) else none
def binD : Bop → D → D → Option Vl
  | .add, x, y => addD x y
  | .mul, x, y => mulD x y
  | .sub, .int i, .int j => some (.d (.int (i - j)))
  | .fdiv, .int i, .int j => (fdivD i j).map fun k => .d (.int k)
  | .mod, .int i, .int j => (modD i j).map fun k => .d (.int k)
  | .pow, .int i, .int j => (powD i j).map fun k => .d (.int k)
  | _, _, _ => none
def isXn : List (D × D) → Bool
  | (.list _, _) :: _ => true
  | _ => false
def keyD : D → Bool
  | .int _ => true
  | .str _ => true
  | _ => false
def tkeyD : D → Bool
  | .tuple (x :: xs) => keyD x && xs.all keyD
  | _ => false
def keq : D → D → Bool
  | .int i, .int j => i == j
  | .str x, .str y => x == y
  | _, _ => false
def keqs : List D → List D → Bool
  | [], [] => true
  | x :: xs, y :: ys => keq x y && keqs xs ys
  | _, _ => false
def keyEq : D → D → Bool
  | .tuple xs, .tuple ys => keqs xs ys
  | x, y => keq x y
def dlook (k : D) : List (D × D) → Option D
  | [] => none
  | (j, v) :: ds => if keyEq j k then some v else dlook k ds
def dput (k v : D) (ds : List (D × D)) : List (D × D) := if (ds.any fun p => keyEq p.1 k) = true then ds.map (fun p => if keyEq p.1 k then (p.1, v) else p) else ds ++ [(k, v)]
def dents (k : D) : List (D × D) → Option (List (D × D))
  | (.tuple [], .none) :: ds => if tkeyD k then some ds else none
  | (.list _, _) :: _ => none
  | ds => if keyD k then some ds else none
def dget (ds : List (D × D)) (k : D) : Option (Option D) := (dents k ds).map (dlook k)
def okD (x : D) : Bool := x.plain && decide (x.depth ≤ 60)
def isNone : D → Bool
  | .none => true
  | _ => false
def ltD (x y : D) : Option Bool := if okD x && okD y && PySem.W.alike x y && !isNone x then some (PySem.W.dataLt x y) else none
def leD (x y : D) : Option Bool := if okD x && okD y && PySem.W.alike x y && !isNone x then some (!PySem.W.dataLt y x) else none
def inD (x : D) : D → Option Bool
  | .list ys => if okD x && PyData.plainAll ys then some (ys.any fun y => PyData.eqv y x) else none
  | .tuple ys => if okD x && PyData.plainAll ys then some (ys.any fun y => PyData.eqv y x) else none
  | .str z => (match x with
    | .str w => some (!(Builtin.Str.occurrences z w 0 z.length 1).isEmpty)
    | _ => none)
  | .dict ds => (dget ds x).map Option.isSome
  | _ => none
def gtD (x y : D) : Option Bool := if okD x && okD y && PySem.W.alike x y && !isNone x then some (PySem.W.dataLt y x) else none
def geD (x y : D) : Option Bool := if okD x && okD y && PySem.W.alike x y && !isNone x then some (!PySem.W.dataLt x y) else none
def cmpD : Cop → D → D → Option Bool
  | .eq, x, y => if okD x && okD y then some (PyData.eqv x y) else none
  | .ne, x, y => if okD x && okD y then some (!PyData.eqv x y) else none
  | .lt, x, y => ltD x y
  | .le, x, y => leD x y
  | .gt, x, y => gtD x y
  | .ge, x, y => geD x y
  | .isin, x, y => inD x y
  | .notin, x, y => (inD x y).map (!·)
def at? (xs : List D) (i : Int) : Option D := L2.atI xs i
def ixD : D → D → Option D
  | .list xs, .int i => at? xs i
  | .tuple xs, .int i => at? xs i
  | .str z, .int i => if z.length ≤ SL then (L2.atI z.cps.toList i).map fun c => .str ⟨#[c]⟩ else none
  | .dict ds, k => (dget ds k).bind id
  | _, _ => none
def cutD (xs : List D) (lo hi : Option Int) : List D := (xs.drop (HT.sIx xs.length 0 lo)).take (HT.sIx xs.length xs.length hi - HT.sIx xs.length 0 lo)
def slD (x : D) (lo hi : Option Int) : Option Vl := match x with
  | .list xs => some (.fr (.list (cutD xs lo hi)))
  | .tuple xs => some (.d (.tuple (cutD xs lo hi)))
  | .str z => if z.length ≤ SL then some (.d (.str (L2.cutS z lo hi))) else none
  | _ => none
def intsD : List D → Option (List Int)
  | [] => some []
  | .int i :: r => (intsD r).map (i :: ·)
  | _ :: _ => none
def boolsD : List D → Option (List Bool)
  | [] => some []
  | .bool b :: r => (boolsD r).map (b :: ·)
  | _ :: _ => none
def maxI (m : Int) : List Int → Int
  | [] => m
  | x :: r => maxI (if x > m then x else m) r
def minI (m : Int) : List Int → Int
  | [] => m
  | x :: r => minI (if x < m then x else m) r
def insD (x : D) : List D → List D
  | [] => [x]
  | y :: ys => if PySem.W.dataLt y x then y :: insD x ys else x :: y :: ys
def isortD : List D → List D
  | [] => []
  | x :: xs => insD x (isortD xs)
def tupC : D → Bool
  | .tuple (_ :: _) => true
  | _ => false
def notNT : D → Bool
  | .none => false
  | .tuple _ => false
  | _ => true
def sortOk (xs : List D) : Bool := xs.all okD && xs.all (fun x => xs.all (PySem.W.alike x)) && (xs.all tupC || xs.all notNT) && decide (xs.length ≤ SL)
def sortD (xs : List D) : Option (List D) := if sortOk xs then some (isortD xs) else none
def dkeysD (ds : List (D × D)) : Option (List D) := if (ds.all fun p => keyD p.1) = true then some (ds.map (·.1)) else none
def sdkD : List (D × D) → Option (List D)
  | (.tuple [], .none) :: es => if (!kB && es.all fun p => tkeyD p.1) = true then sortD (es.map (·.1)) else none
  | ds => (dkeysD ds).bind sortD
def uinsD (x : D) : List D → List D
  | [] => [x]
  | y :: ys => if PySem.W.dataLt y x then y :: uinsD x ys else if PySem.W.dataLt x y then x :: y :: ys else y :: ys
def usortD : List D → List D
  | [] => []
  | x :: xs => uinsD x (usortD xs)
def setOk (xs : List D) : Bool := decide (xs.length < 1000) && (xs.all keyD || (decide (xs.length < 500) && xs.all tkeyD)) && xs.all (fun x => xs.all (PySem.W.alike x))
def setD (xs : List D) : Option (List D) := if setOk xs then some (usortD xs) else none
def dictK : D → Option (List (D × D))
  | .dict ds => if (ds.all fun p => keyD p.1) = true then some ds else none
  | _ => none
def items : D → Option (List D)
  | .list xs => some xs
  | .tuple xs => some xs
  | _ => none
def dlenD : List (D × D) → Nat
  | (.tuple [], .none) :: es => es.length
  | ds => ds.length
def f1D : F1 → D → Option Vl
  | .len, .dict ds => if isXn ds = true then none else some (.d (.int (dlenD ds)))
  | .len, .list xs => some (.d (.int xs.length))
  | .len, .tuple xs => some (.d (.int xs.length))
  | .len, .str z => if z.length ≤ SL then some (.d (.int z.length)) else none
  | .tuple, .list xs => some (.d (.tuple xs))
  | .tuple, .tuple xs => some (.d (.tuple xs))
  | .list, .list xs => some (.fr (.list xs))
  | .list, .tuple xs => some (.fr (.list xs))
  | .list, .str z => if z.length ≤ SL then some (.fr (.list (z.cps.toList.map fun c => .str ⟨#[c]⟩))) else none
  | .int, .int i => some (.d (.int i))
  | .int, .bool b => some (.d (.int (if b then 1 else 0)))
  | .int, .str z => if z.length ≤ 640 then (PySem.intText? z).map fun n => .d (.int n) else none
  | .str, .int i => if i.natAbs.log2 < 1920 then some (.d (.str (Str.ofString (toString i)))) else none
  | .sorted, .list xs => (sortD xs).map fun ys => .fr (.list ys)
  | .sorted, .dict ds => (sdkD ds).map fun ys => .fr (.list ys)
  | .sorted, .tuple xs => (sortD xs).map fun ys => .fr (.list ys)
  | .srt1, .list xs => if xs.length = 1 then some (.fr (.list xs)) else (sortD xs).map fun ys => .fr (.list ys)
  | .sset, .list xs => (setD xs).map fun ys => .fr (.list ys)
  | .sset, .tuple xs => (setD xs).map fun ys => .fr (.list ys)
  | .lset, .list xs => (setD xs).map fun ys => .d (.int ys.length)
  | .lset, .tuple xs => (setD xs).map fun ys => .d (.int ys.length)
  | .abs, .int i => some (.d (.int (if i < 0 then -i else i)))
  | .sum, .list xs => (intsD xs).map fun ns => .d (.int ns.sum)
  | .sum, .tuple xs => (intsD xs).map fun ns => .d (.int ns.sum)
  | .all, .list xs => (boolsD xs).map fun bs => .d (.bool (bs.all id))
  | .any, .list xs => (boolsD xs).map fun bs => .d (.bool (bs.any id))
  | .max, .list xs => (intsD xs).bind fun ns => match ns with | [] => none | n :: r => some (.d (.int (maxI n r)))
  | .max, .tuple xs => (intsD xs).bind fun ns => match ns with | [] => none | n :: r => some (.d (.int (maxI n r)))
  | .min, .list xs => (intsD xs).bind fun ns => match ns with | [] => none | n :: r => some (.d (.int (minI n r)))
  | .min, .tuple xs => (intsD xs).bind fun ns => match ns with | [] => none | n :: r => some (.d (.int (minI n r)))
  | _, _ => none
def f2D : F2 → D → D → Option Vl
  | .max, .int i, .int j => some (.d (.int (if j > i then j else i)))
  | .min, .int i, .int j => some (.d (.int (if j < i then j else i)))
  | _, _, _ => none
def strsD : List D → Option (List Str)
  | [] => some []
  | .str x :: r => (strsD r).map (x :: ·)
  | _ :: _ => none
def isTy : D → Ty → Bool
  | .list _, .list => true
  | .tuple _, .tuple => true
  | .bool _, .bool => true
  | .bool _, .int => true
  | .int _, .int => true
  | .str _, .str => true
  | _, _ => false
def noDict : D → Bool
  | .dict _ => false
  | _ => true
def rg2D (i j : Int) : Option (List D) := if decide (-(2 ^ 61) ≤ i ∧ i < 2 ^ 61 ∧ -(2 ^ 61) ≤ j ∧ j < 2 ^ 61) then some ((List.range (j - i).toNat).map fun k => .int (i + (k : Nat))) else none
mutual
def bindT : Tg → D → Ev → Option Ev
  | .n i, x, env => if i < env.length then some (env.set i (.sh x)) else none
  | .t ts, .tuple xs, env => bindTs ts xs env
  | .t ts, .list xs, env => bindTs ts xs env
  | .t _, _, _ => none
def bindTs : Tgs → List D → Ev → Option Ev
  | .nil, [], env => some env
  | .cons t ts, x :: xs, env => (bindT t x env).bind fun env' => bindTs ts xs env'
  | _, _, _ => none
end
def wipeE (env : Ev) : List Nat → Ev
  | [] => env
  | v :: vs => (wipeE env vs).set v .no
def turns (bd : D → Ev → Option Ev) (tt : Ev → Sto → Option (Bool × Sto)) (el : Ev → Sto → Option (D × Sto)) (env : Ev) : List D → List D → Sto → Option (List D × Sto)
  | [], acc, st => some (acc, st)
  | x :: xs, acc, st => match bd x env with
    | none => none
    | some e1 => bnd (tt e1 st) fun b s1 => if b then bnd (el e1 s1) fun y s2 => if acc.length < SL then turns bd tt el env xs (acc ++ [y]) s2 else none else turns bd tt el env xs acc s1
def zipD : List D → List D → List D
  | x :: xs, y :: ys => .tuple [x, y] :: zipD xs ys
  | _, _ => []
def enumD (i : Nat) : List D → List D
  | [] => []
  | x :: xs => .tuple [.int (i : Nat), x] :: enumD (i + 1) xs
def walkD : D → Option (List D)
  | .list xs => some xs
  | .tuple xs => some xs
  | .str z => some (z.cps.toList.map fun c => .str ⟨#[c]⟩)
  | _ => none
abbrev Cf := Nat → List Vl → Sto → Option (Vl × Sto)
def pick {α : Type} (xs : List α) : List Nat → Option (List α)
  | [] => some []
  | i :: is => (xs[i]?).bind fun x => (pick xs is).map (x :: ·)
def asInt : D → Option Int
  | .int i => some i
  | _ => none
def argV (w : Vl) : Vl := match w with
  | .fr x => .d x
  | w => w
def xnD (n f : Str) (x : D) : D := .dict [(.list [.str n, .str f], x)]
def xisD (own : Bool) (z : Str) (xs : List (Str × Str)) (x : D) : Option Vl := match x with
  | .dict [(.list [.str m, .str g], _)] => if xs.contains (m, g) = true then some (.d (.bool (!own || m == z))) else none
  | _ => none
def xfdD (xs : List (Str × Str)) (f : Str) (x : D) : Option Vl := match x with
  | .dict [(.list [.str m, .str g], y)] => if (g == f && xs.contains (m, g)) = true then some (.d y) else none
  | _ => none
mutual
def ev (gl : Nat → Option D) (cf : Cf) : E → Ev → Sto → Option (Vl × Sto)
  | .non, _, st => some (.d .none, st)
  | .bl b, _, st => some (.d (.bool b), st)
  | .int i, _, st => some (.d (.int i), st)
  | .str s, _, st => some (.d (.str s), st)
  | .v i, env, st => (match look env i with
    | .sh x => some (.d x, st)
    | .rf n => some (.rf n, st)
    | _ => none)
  | .g i, _, st => ret ((gl i).map .d) st
  | .tup es, env, st => bnd (evs gl cf es env st) fun xs s => if xs.length ≤ SL then some (.d (.tuple xs), s) else none
  | .lst es, env, st => bnd (evs gl cf es env st) fun xs s => if xs.length ≤ SL then some (.fr (.list xs), s) else none
  | .bin op a b, env, st => bnd (bor a (ev gl cf a env st) env st) fun x s => bnd (bor b (ev gl cf b env s) env s) fun y s' => ret (binD op x y) s'
  | .neg a, env, st => bnd (bor a (ev gl cf a env st) env st) fun x s => ret ((asInt x).map fun i => .d (.int (-i))) s
  | .cmp op a b, env, st => bnd (bor a (ev gl cf a env st) env st) fun x s => bnd (bor b (ev gl cf b env s) env s) fun y s' => ret ((cmpD op x y).map fun k => .d (.bool k)) s'
  | .isN a, env, st => bnd (bor a (ev gl cf a env st) env st) fun x s => some (.d (.bool (match x with | .none => true | _ => false)), s)
  | .isnN a, env, st => bnd (bor a (ev gl cf a env st) env st) fun x s => some (.d (.bool (match x with | .none => false | _ => true)), s)
  | .and a b, env, st => bnd (toD (ev gl cf a env st)) fun x s => bnd (ret (truD x) s) fun k s => if k then ev gl cf b env s else some (.d x, s)
  | .or a b, env, st => bnd (ev gl cf a env st) fun w s => bnd (ret w.toD s) fun x s => bnd (ret (truD x) s) fun k s => if k then some (w, s) else ev gl cf b env s
  | .not a, env, st => bnd (tru (bor a (ev gl cf a env st) env st)) fun k s => some (.d (.bool (!k)), s)
  | .ite c a b, env, st => bnd (tru (bor c (ev gl cf c env st) env st)) fun k s => if k then ev gl cf a env s else ev gl cf b env s
  | .ix a i, env, st => bnd (bor a (ev gl cf a env st) env st) fun x s => bnd (bor i (ev gl cf i env s) env s) fun y s' => ret ((ixD x y).map .d) s'
  | .bx i k, env, st => bnd (bor k (ev gl cf k env st) env st) fun y s => (match look env i with
    | .rf n => ret ((s[n]?).bind fun xs => (ixD (.list xs) y).map .d) s
    | _ => none)
  | .sl a lo hi, env, st => bnd (bor a (ev gl cf a env st) env st) fun x s => bnd (evo gl cf lo env s) fun l s1 => bnd (evo gl cf hi env s1) fun h s2 => ret (slD x l h) s2
  | .exn n f a, env, st => bnd (cf 999 [] st) fun _ _ => bnd (toD (ev gl cf a env st)) fun x s => some (.d (xnD n f x), s)
  | .exk n f a, env, st => bnd (cf 999 [] st) fun _ _ => bnd (toD (ev gl cf a env st)) fun x s => some (.d (xnD n f x), s)
  | .exz n f, env, st => bnd (cf 999 [] st) fun _ _ => some (.d (xnD n f (.tuple [])), st)
  | .xis own z xs a, env, st => bnd (bor a (ev gl cf a env st) env st) fun x s => ret (xisD own z xs x) s
  | .xfd f xs a, env, st => bnd (bor a (ev gl cf a env st) env st) fun x s => ret (xfdD xs f x) s
  | .call f es, env, st => bnd (eva gl cf es env st) fun ws s => cf f ws s
  | .f1 f a, env, st => bnd (bor a (ev gl cf a env st) env st) fun x s => ret (f1D f x) s
  | .f2 f a b, env, st => bnd (bor a (ev gl cf a env st) env st) fun x s => bnd (bor b (ev gl cf b env s) env s) fun y s' => ret (f2D f x y) s'
  | .dnew t, _, st => some (.fr (.dict (if t then [(.tuple [], .none)] else [])), st)
  | .isi a ts, env, st => bnd (bor a (ev gl cf a env st) env st) fun x s => if noDict x then some (.d (.bool (ts.any (isTy x))), s) else none
  | .lc vs e t it c, env, st => bnd (evi gl cf it env st) fun xs s => bnd (turns (bindT t) (fun e1 s1 => evc gl cf c e1 s1) (fun e1 s1 => toD (ev gl cf e e1 s1)) (wipeE env vs) xs [] s) fun ys s' => some (.fr (.list ys), s')
def evs (gl : Nat → Option D) (cf : Cf) : Es → Ev → Sto → Option (List D × Sto)
  | .nil, _, st => some ([], st)
  | .cons e es, env, st => bnd (toD (ev gl cf e env st)) fun x s => bnd (evs gl cf es env s) fun xs s' => some (x :: xs, s')
  | .star e es, env, st => bnd (bor e (ev gl cf e env st) env st) fun x s => bnd (ret (items x) s) fun xs s1 => bnd (evs gl cf es env s1) fun ys s2 => some (xs ++ ys, s2)
def eva (gl : Nat → Option D) (cf : Cf) : Es → Ev → Sto → Option (List Vl × Sto)
  | .nil, _, st => some ([], st)
  | .cons e es, env, st => bnd (ev gl cf e env st) fun x s => bnd (eva gl cf es env s) fun xs s' => some (argV x :: xs, s')
  | .star _ _, _, _ => none
def evo (gl : Nat → Option D) (cf : Cf) : Oe → Ev → Sto → Option (Option Int × Sto)
  | .no, _, st => some (none, st)
  | .yes e, env, st => bnd (bor e (ev gl cf e env st) env st) fun x s => ret ((asInt x).map some) s
def evc (gl : Nat → Option D) (cf : Cf) : Oe → Ev → Sto → Option (Bool × Sto)
  | .no, _, st => some (true, st)
  | .yes e, env, st => tru (bor e (ev gl cf e env st) env st)
def evi (gl : Nat → Option D) (cf : Cf) : It → Ev → Sto → Option (List D × Sto)
  | .of e, env, st => bnd (bor e (ev gl cf e env st) env st) fun x s => ret (walkD x) s
  | .rng1 a, env, st => bnd (bor a (ev gl cf a env st) env st) fun x s => ret ((asInt x).bind fun n => rg2D 0 n) s
  | .rng2 a b, env, st => bnd (bor a (ev gl cf a env st) env st) fun x s => bnd (bor b (ev gl cf b env s) env s) fun y s' => ret ((asInt x).bind fun i => (asInt y).bind fun j => rg2D i j) s'
  | .enm a, env, st => bnd (bor a (ev gl cf a env st) env st) fun x s => ret ((items x).map (enumD 0)) s
  | .zip a b, env, st => bnd (bor a (ev gl cf a env st) env st) fun x s => bnd (bor b (ev gl cf b env s) env s) fun y s' => ret ((items x).bind fun xs => (items y).map fun ys => zipD xs ys) s'
end
structure Hd where
  ca : Str
  to : Str
  er : Str
  i : Nat
  t : Nat
  j : Nat
  q : Nat
  cn : Str
  fld : Str
  tags : List Str
  base : Option Str
structure Hh where
  q : Nat
  cn : Str
  fld : Str
  er : Str
  j : Nat
  tags : List Str
  base : Option Str
  kd : Nat
structure Hm where
  ca : Str
  i : Nat
  to : Option (Str × Nat)
  rev : Bool
  hs : List Hh
  wd : Option (Str × Nat × Str)        -- (name, place, base): three names get None; a clause stores `ca, name = er, X` (X: er.fld; a text + er.fld; [tags.., er.fld], by kd); `return to if ca is None else [name, isinstance(ca, base)]`
mutual
inductive S where
  | asg (t : Tg) (e : E)            -- target = tree
  | own (i : Nat) (e : E)           -- name = a new list, to be changed
  | mv (i j : Nat)                  -- name = name: the list changes its owner
  | fz (is : List Nat) (s : S)      -- these lists are not changed any more
  | stix (i : Nat) (k e : E)        -- name[k] = e
  | app (i : Nat) (e : E) | ext (i : Nat) (e : E)
  | par (i : Nat) (oi : Bool) (e : E) (j : Nat) (oj : Bool) (f : E)   -- name, name = .., .. (the flags: a new list, to be changed)
  | ex (e : E)
  | ret (e : E) | reto (i : Nat) | ret0 | rbox (es : Es)
  | ite (c : E) (a b : Ss)
  | for' (t : Tg) (it : It) (b : Ss)
  | rse (q : Nat) (c : Str) (e : E)           -- raise c(e), c the class q
  | hrd (h : Hd) (b : Ss)          -- a whole def
  | hrm (h : Hm) (b : Ss)          -- a whole def
  | brk | cnt | pass | never
inductive Ss where | nil | cons (s : S) (ss : Ss)
end
inductive Fl where | nx | bk | ct | rt (w : Vl)
abbrev SR := Option (Fl × Ev × Sto)
def ownAt (env : Ev) (i : Nat) (x : D) : Option Ev := if i < env.length then some (env.set i (.ow x)) else none
def setNth (xs : List D) (k : D) (y : D) : Option (List D) := match k with
  | .int i => (L2.ixN xs.length i).map fun j => xs.set j y
  | _ => none
def slotP (o : Bool) (w : Vl) : Option Slot := match o, w with
  | true, .fr x => some (.ow x)
  | false, w => w.toD.map .sh
  | _, _ => none
def freeze (env : Ev) : List Nat → Option Ev
  | [] => some env
  | i :: is => (match look env i with
    | .ow x => freeze (env.set i (.sh x)) is
    | .sh _ => freeze env is
    | _ => none)
def scalD : D → Bool
  | .int _ => true
  | .bool _ => true
  | .str _ => true
  | .none => true
  | _ => false
def scalS (st : Sto) : Bool := st.all fun xs => xs.all scalD
def forL (bd : D → Ev → Option Ev) (body : Ev → Sto → SR) : List D → Ev → Sto → SR
  | [], env, st => some (.nx, env, st)
  | x :: xs, env, st => match bd x env with
    | none => none
    | some e1 => match body e1 st with
      | some (.nx, e2, s2) => forL bd body xs e2 s2
      | some (.ct, e2, s2) => forL bd body xs e2 s2
      | some (.bk, e2, s2) => some (.nx, e2, s2)
      | some (.rt w, e2, s2) => some (.rt w, e2, s2)
      | none => none
def lockOf (it : It) (env : Ev) : Option Nat := match it with
  | .of (.v i) => (match look env i with
    | .ow _ => some i
    | _ => none)
  | .enm (.v i) => (match look env i with
    | .ow _ => some i
    | _ => none)
  | _ => none
def lock (o : Option Nat) (env : Ev) : Ev := match o with
  | none => env
  | some i => (match look env i with
    | .ow x => env.set i (.lk x)
    | _ => env)
def hideW (env : Ev) : Ev := env.map fun s => match s with
  | .ow _ => .no
  | s => s
def unlock (o : Option Nat) (r : SR) : SR := match o, r with
  | some i, some (.nx, env, st) => (match look env i with
    | .lk x => some (.nx, env.set i (.ow x), st)
    | _ => none)
  | some _, some (.rt w, env, st) => some (.rt w, env, st)
  | some _, _ => none
  | none, r => r
def isV : E → Bool
  | .v _ => true
  | _ => false
def brw : It → Bool
  | .of e => isV e
  | .enm e => isV e
  | .zip a b => isV a || isV b
  | _ => false
def hideB (b : Bool) (env : Ev) : Ev := if b then hideW env else env
def sbnd (r : SR) (k : Ev → Sto → SR) : SR := match r with
  | some (.nx, env, st) => k env st
  | r => r
abbrev DL := List (Str × D)
def dlGet (n : Str) : DL → Option D
  | [] => none
  | (m, x) :: r => if (m == n) = true then some x else dlGet n r
def dlSet (n : Str) (y : D) : DL → DL
  | [] => []
  | (m, x) :: r => if (m == n) = true then (m, y) :: r else (m, x) :: dlSet n y r
def dlD (ds : DL) : D := .dict (ds.map fun p => (.str p.1, p.2))
mutual
def exec (gl : Nat → Option D) (cf : Cf) (W : Nat) : S → Ev → Sto → SR
  | .asg t e, env, st => match toD (ev gl cf e env st) with
    | some (x, s) => (bindT t x env).map fun e1 => (.nx, e1, s)
    | none => none
  | .own i e, env, st => match ev gl cf e env st with
    | some (.fr x, s) => (ownAt env i x).map fun e1 => (.nx, e1, s)
    | _ => none
  | .mv i j, env, st => if i = j then none else match look env j with
    | .ow x => (ownAt (env.set j .no) i x).map fun e1 => (.nx, e1, st)
    | _ => none
  | .fz is s, env, st => match freeze env is with
    | some e1 => exec gl cf W s e1 st
    | none => none
  | .stix i k e, env, st => match toD (ev gl cf e env st) with
    | some (y, s) => (match bor k (ev gl cf k env s) env s with
      | some (kx, s1) => (match look env i with
        | .ow (.list xs) => (setNth xs kx y).bind fun ys => some (.nx, env.set i (.ow (.list ys)), s1)
        | .ow (.dict ds) => if (keyD kx && decide (ds.length < SL)) = true then (dents kx ds).map fun es => (.nx, env.set i (.ow (.dict (dput kx y es))), s1) else none
        | .rf n => (s1[n]?).bind fun xs => (setNth xs kx y).bind fun ys => some (.nx, env, s1.set n ys)
        | _ => none)
      | none => none)
    | none => none
  | .app i e, env, st => match toD (ev gl cf e env st) with
    | some (y, s) => (match look env i with
      | .ow (.list xs) => if xs.length < SL then some (.nx, env.set i (.ow (.list (xs ++ [y]))), s) else none
      | _ => none)
    | none => none
  | .ext i e, env, st => match ev gl cf e env st with
    | some (.fr (.list ys), s) => (match look env i with
      | .ow (.list xs) => if xs.length + ys.length ≤ SL then some (.nx, env.set i (.ow (.list (xs ++ ys))), s) else none
      | _ => none)
    | _ => none
  | .par i oi e j oj f, env, st => match ev gl cf e env st with
    | some (w, s) => (match ev gl cf f env s with
      | some (u, s2) => (match slotP oi w, slotP oj u with
        | some a, some b => if i ≠ j ∧ i < env.length ∧ j < env.length then some (.nx, (env.set i a).set j b, s2) else none
        | _, _ => none)
      | none => none)
    | none => none
  | .ex e, env, st => match ev gl cf e env st with
    | some (_, s) => some (.nx, env, s)
    | none => none
  | .ret e, env, st => match ev gl cf e env st with
    | some (w, s) => some (.rt w, env, s)
    | none => none
  | .reto i, env, st => (match look env i with
    | .ow x => some (.rt (.fr x), env, st)
    | _ => none)
  | .ret0, env, st => some (.rt (.d .none), env, st)
  | .rbox es, env, st => match evs gl cf es env st with
    | some (xs, s) => if xs.length ≤ SL then some (.rt (.rf s.length), env, s ++ [xs]) else none
    | none => none
  | .ite c a b, env, st => match tru (bor c (ev gl cf c env st) env st) with
    | some (true, s) => execs gl cf W a env s
    | some (false, s) => execs gl cf W b env s
    | none => none
  | .for' t it b, env, st => match evi gl cf it (hideB (brw it) (lock (lockOf it env) env)) st with
    | some (xs, s) => unlock (lockOf it env) (forL (bindT t) (fun e1 s1 => execs gl cf W b e1 s1) xs (lock (lockOf it env) env) s)
    | none => none
  | .brk, env, st => some (.bk, env, st)
  | .cnt, env, st => some (.ct, env, st)
  | .pass, env, st => some (.nx, env, st)
  | .rse _ _ _, _, _ => none
  | .hrd _ _, _, _ => none
  | .hrm _ _, _, _ => none
  | .never, _, _ => none
def execs (gl : Nat → Option D) (cf : Cf) (W : Nat) : Ss → Ev → Sto → SR
  | .nil, env, st => some (.nx, env, st)
  | .cons s ss, env, st => sbnd (exec gl cf W s env st) fun e1 s1 => execs gl cf W ss e1 s1
end
structure Fn where
  np : Nat
  nn : Nat
  body : Ss
def slotOf : Vl → Slot
  | .d x => .sh x
  | .fr x => .sh x
  | .rf n => .rf n
def out (r : SR) : Option (Vl × Sto) := match r with
  | some (.nx, _, st) => some (.d .none, st)
  | some (.rt w, _, st) => some (w, st)
  | _ => none
def forX (bd : D → Ev → Option Ev) (body : Ev → Sto → SR) (bx : Ev → Sto → Option (D × Sto)) : List D → Ev → Sto → Option (D × Sto)
  | [], _, _ => none
  | x :: xs, env, st => match bd x env with
    | none => none
    | some e1 => match body e1 st with
      | some (.nx, e2, s2) => forX bd body bx xs e2 s2
      | some (.ct, e2, s2) => forX bd body bx xs e2 s2
      | some _ => none
      | none => bx e1 st
def evX (gl : Nat → Option D) (cf : Cf) (q : Nat) : E → Ev → Sto → Option (D × Sto)
  | .call f es, env, st => if f < 1000 then bnd (eva gl cf es env st) fun ws s => toD (cf (f + 1000 * (q + 1)) ws s) else none
  | .f1 .len a, env, st => evX gl cf q a env st
  | .cmp _ a _, env, st => evX gl cf q a env st
  | .ix a _, env, st => evX gl cf q a env st
  | .sl a _ _, env, st => evX gl cf q a env st
  | .isN a, env, st => evX gl cf q a env st
  | .ite c a b, env, st => bnd (tru (bor c (ev gl cf c env st) env st)) fun k s => if k then evX gl cf q a env s else evX gl cf q b env s
  | _, _, _ => none
def dkI : It → Bool
  | _ => false
def eviX (gl : Nat → Option D) (cf : Cf) (q : Nat) : It → Ev → Sto → Option (D × Sto)
  | .of e, env, st => evX gl cf q e env st
  | .enm e, env, st => evX gl cf q e env st
  | _, _, _ => none
mutual
def execSX (gl : Nat → Option D) (cf : Cf) (W : Nat) (q : Nat) : S → Ev → Sto → Option (D × Sto)
  | .rse q' _ e, env, st => if q' = q then toD (ev gl cf e env st) else none
  | .asg _ e, env, st => evX gl cf q e env st
  | .ex e, env, st => evX gl cf q e env st
  | .ret e, env, st => evX gl cf q e env st
  | .fz is s, env, st => match freeze env is with
    | some e1 => execSX gl cf W q s e1 st
    | none => none
  | .ite c a b, env, st => match tru (bor c (ev gl cf c env st) env st) with
    | some (true, s) => execX gl cf W q a env s
    | some (false, s) => execX gl cf W q b env s
    | none => none
  | .for' t it b, env, st => if dkI it = true then none else match evi gl cf it (hideB (brw it) (lock (lockOf it env) env)) st with
    | some (xs, s) => forX (bindT t) (fun e1 s1 => execs gl cf W b e1 s1) (fun e1 s1 => execX gl cf W q b e1 s1) xs (lock (lockOf it env) env) s
    | none => eviX gl cf q it env st
  | _, _, _ => none
def execX (gl : Nat → Option D) (cf : Cf) (W : Nat) (q : Nat) : Ss → Ev → Sto → Option (D × Sto)
  | .nil, _, _ => none
  | .cons s ss, env, st => match exec gl cf W s env st with
    | some (.nx, e1, s1) => execX gl cf W q ss e1 s1
    | some _ => none
    | none => execSX gl cf W q s env st
end
def Hd.val (h : Hd) (p : D) : List D := h.tags.map .str ++ p :: (match h.base with | some _ => [.bool true] | none => [])
def Hd.tg (h : Hd) : Tg := .t (.cons (.n h.i) (.cons (.n h.t) .nil))
def heardR (h : Hd) (r : SR) (x : Option (D × Sto)) : Option (Vl × Sto) := match r with
  | some (.nx, env, st) => (match look env h.i, look env h.t with
    | .sh .none, .sh x => some (.d x, st)
    | _, _ => none)
  | some _ => none
  | none => x.map fun p => (.fr (.list (h.val p.1)), p.2)
def Hh.val (h : Hh) (p : D) : List D := match h.kd with
  | 3 => h.tags.map .str ++ [.bool true]
  | _ => h.tags.map .str ++ p :: (match h.base with | some _ => [.bool true] | none => [])
def Hm.tg (h : Hm) : Tg := match h.to with
  | some (_, t) => match h.wd with
    | some (_, w, _) => .t (.cons (.n t) (.cons (.n h.i) (.cons (.n w) .nil)))
    | none => if h.rev then .t (.cons (.n t) (.cons (.n h.i) .nil)) else .t (.cons (.n h.i) (.cons (.n t) .nil))
  | none => .n h.i
def Hm.e0 (h : Hm) : E := match h.to with
  | some _ => match h.wd with
    | some _ => .tup (.cons .non (.cons .non (.cons .non .nil)))
    | none => .tup (.cons .non (.cons .non .nil))
  | none => .non
def Hm.d0 (h : Hm) : D := match h.to with
  | some _ => match h.wd with
    | some _ => .tuple [.none, .none, .none]
    | none => .tuple [.none, .none]
  | none => .none
def Hh.wv (h : Hh) (p : D) : Option D := match h.kd with
  | 0 => some p
  | 1 => (match h.tags, p with
    | [g], .str s => if g.length + s.length ≤ SL then some (.str (g ++ s)) else none
    | _, _ => none)
  | _ => some (.list (h.tags.map .str ++ [p]))
def firstW (x : Nat → Option (D × Sto)) : List Hh → Option (Vl × Sto)
  | [] => none
  | h :: hs => match x h.q with
    | some p => (h.wv p.1).map fun y => (.d (.list [y, .bool true]), p.2)
    | none => firstW x hs
def firstX (x : Nat → Option (D × Sto)) : List Hh → Option (Vl × Sto)
  | [] => none
  | h :: hs => match x h.q with
    | some p => some (.d (.list (h.val p.1)), p.2)
    | none => firstX x hs
def heardM (h : Hm) (r : SR) (x : Nat → Option (D × Sto)) : Option (Vl × Sto) := match r with
  | some (.nx, env, st) => (match h.to with
    | some (_, t) => (match look env h.i, look env t with
      | .sh .none, .sh x => some (.d x, st)
      | _, _ => none)
    | none => (match look env h.i with
      | .sh x => some (.d x, st)
      | _ => none))
  | some (.rt w, _, st) => some (w, st)
  | some _ => none
  | none => match h.wd with
    | none => firstX x h.hs
    | some _ => firstW x h.hs
def outB (gl : Nat → Option D) (cf : Cf) (W n : Nat) (B : Ss) (env : Ev) (st : Sto) : Option (Vl × Sto) := match B with
  | .cons (.hrd h b) .nil => if n ≤ 1000 then (bindT h.tg (.tuple [.none, .none]) env).bind fun e1 => heardR h (execs gl cf W b e1 st) (execX gl cf W h.q b e1 st) else none
  | .cons (.hrm h b) .nil => if n ≤ 1000 then (bindT h.tg h.d0 env).bind fun e1 => heardM h (execs gl cf W b e1 st) (fun q => execX gl cf W q b e1 st) else none
  | B => out (execs gl cf W B env st)
def nd (n k : Nat) : Nat := if 2 ≤ k then n else 1001
theorem nd_le {n k : Nat} (h : nd n k ≤ 1000) : n ≤ 1000 ∧ 2 ≤ k := by
  unfold nd at h
  split at h
  · exact ⟨h, ‹_›⟩
  · omega
theorem nd_of {n k : Nat} (h : n ≤ 1000) (hk : 2 ≤ k) : nd n k ≤ 1000 := by
  unfold nd
  rw [if_pos hk]; exact h
def run (gl : Nat → Option D) (P : List Fn) (W : Nat) : Nat → Cf
  | 0, _, _, _ => none
  | k + 1, f, ws, st => match P[f]? with
    | some F => if ws.length = F.np then outB gl (run gl P W k) W (nd P.length k) F.body (ws.map slotOf ++ List.replicate (F.nn - F.np) .no) st else none
    | none => (match P[f % 1000]? with
      | some F => if ws.length = F.np ∧ P.length ≤ 1000 ∧ 2 ≤ k then (execX gl (run gl P W k) W (f / 1000 - 1) F.body (ws.map slotOf ++ List.replicate (F.nn - F.np) .no) st).map fun p => (.d p.1, p.2) else none
      | none => if f = 999 ∧ 2 ≤ k then some (.d .none, st) else none)
theorem outB_of {gl : Nat → Option D} {cf : Cf} {W n : Nat} {B : Ss} {env : Ev} {st : Sto} {r : Vl × Sto} (h : out (execs gl cf W B env st) = some r) : outB gl cf W n B env st = some r := by
  unfold outB
  split
  · exact nomatch (show (none : Option (Vl × Sto)) = some r from h)
  · exact nomatch (show (none : Option (Vl × Sto)) = some r from h)
  · exact h
theorem outB_eq {gl : Nat → Option D} {cf : Cf} {W n : Nat} {B : Ss} {env : Ev} {st : Sto} {r : Vl × Sto} (e : outB gl cf W n B env st = some r) : out (execs gl cf W B env st) = some r ∨ (∃ h b e1, B = .cons (.hrd h b) .nil ∧ n ≤ 1000 ∧ bindT h.tg (.tuple [.none, .none]) env = some e1 ∧
    heardR h (execs gl cf W b e1 st) (execX gl cf W h.q b e1 st) = some r) ∨ ∃ h b e1, B = .cons (.hrm h b) .nil ∧ n ≤ 1000 ∧ bindT h.tg h.d0 env = some e1 ∧
    heardM h (execs gl cf W b e1 st) (fun q => execX gl cf W q b e1 st) = some r := by
  unfold outB at e
  split at e
  · split at e
    · obtain ⟨e1, h1, h2⟩ := Option.bind_eq_some_iff.mp e
      exact .inr (.inl ⟨_, _, e1, rfl, ‹_›, h1, h2⟩)
    · cases e
  · split at e
    · obtain ⟨e1, h1, h2⟩ := Option.bind_eq_some_iff.mp e
      exact .inr (.inr ⟨_, _, e1, rfl, ‹_›, h1, h2⟩)
    · cases e
  · exact .inl e
end Pi

end
section
set_option Elab.async false
set_option linter.all false
set_option maxRecDepth 100000
set_option maxHeartbeats 1000000
namespace Pi
open PySem PySem.Spec PyProof.Rows L2
def NoT (o : HO) : Prop := ∀ xs, o ≠ .tup xs
def kD : Key → D
  | .inl i => .int i
  | .inr x => .str x
def WrL (K : PySem.W.Frag) (a : Addr) (xs : List V) : Prop :=
  ∃ (o : Obj) (its : Array Value) (n : Nat), K.lookup a = some o ∧ o.cls = .type "list" ∧ o.dict = none ∧ o.data = .seq its n ∧ its.size ≤ sizeLine ∧ Vals xs its.toList
def AtL (K : PySem.W.Frag) (B : Addr → Prop) (H : Hp) (a : Addr) (xs : List V) : Prop := (¬ B a ∧ Rd H a (.lst xs)) ∨ WrL K a xs
def WrTn (K : PySem.W.Frag) (a : Addr) (xs : List V) : Prop :=
  ∃ (o : Obj) (its : Array Value) (n : Nat), K.lookup a = some o ∧ o.cls = .type "tuple" ∧ o.dict = none ∧ o.data = .seq its n ∧ its.size ≤ sizeLine ∧ Vals xs its.toList
def AtT (K : PySem.W.Frag) (B : Addr → Prop) (H : Hp) (a : Addr) (xs : List V) : Prop := (¬ B a ∧ ∃ o : Obj, o.dict = none ∧ H a = some (tuO o xs)) ∨ (looseV xs = false ∧ WrTn K a xs)
mutual
inductive Rp (K : PySem.W.Frag) (B : Addr → Prop) (H : Hp) : V → D → Prop
  | non : Rp K B H .non .none
  | bl (b : Bool) : Rp K B H (.bl b) (.bool b)
  | int (i : Int) : Rp K B H (.int i) (.int i)
  | str (x : Str) : Rp K B H (.str x) (.str x)
  | lst {a : Addr} {xs : List V} {ds : List D} : AtL K B H a xs → RpAll K B H xs ds → Rp K B H (.ref a) (.list ds)
  | tup {a : Addr} {xs : List V} {ds : List D} : AtT K B H a xs → RpAll K B H xs ds → Rp K B H (.ref a) (.tuple ds)
  | dK {a : Addr} {kvs : List (Key × V)} {ds : List (D × D)} : ¬ B a → L2.Rd H a (.dK kvs) → RpKv K B H kvs ds → Rp K B H (.ref a) (.dict ds)
  | dT {a : Addr} {kvs : List (List Key × V)} {ds : List (D × D)} : ¬ B a → L2.Rd H a (.dT kvs) → RpTv K B H kvs ds → Rp K B H (.ref a) (.dict ((.tuple [], .none) :: ds))
  | exn {a C dd : Addr} {n f : Str} {v : V} {x : D} : PySem.W.nsIn K mainGlobals n = some (some (.ref C)) → ¬ B a → ¬ B dd → H a = some (exo a C (some dd)) → H dd = some (exd dd [(f, v)]) → Rp K B H v x → Rp K B H (.ref a) (.dict [(.list [.str n, .str f], x)])
inductive RpAll (K : PySem.W.Frag) (B : Addr → Prop) (H : Hp) : List V → List D → Prop
  | nil : RpAll K B H [] []
  | cons {v : V} {vs : List V} {d : D} {ds : List D} : Rp K B H v d → RpAll K B H vs ds → RpAll K B H (v :: vs) (d :: ds)
inductive RpKv (K : PySem.W.Frag) (B : Addr → Prop) (H : Hp) : List (Key × V) → List (D × D) → Prop
  | nil : RpKv K B H [] []
  | cons {k : Key} {v : V} {vs : List (Key × V)} {d : D} {ds : List (D × D)} : Rp K B H v d → RpKv K B H vs ds → RpKv K B H ((k, v) :: vs) ((kD k, d) :: ds)
inductive RpTv (K : PySem.W.Frag) (B : Addr → Prop) (H : Hp) : List (List Key × V) → List (D × D) → Prop
  | nil : RpTv K B H [] []
  | cons {k : List Key} {v : V} {vs : List (List Key × V)} {d : D} {ds : List (D × D)} : Rp K B H v d → RpTv K B H vs ds → RpTv K B H ((k, v) :: vs) ((.tuple (k.map kD), d) :: ds)
end
section
variable {K : PySem.W.Frag} {B B' : Addr → Prop} {H H' : Hp}
def Keep (B B' : Addr → Prop) (H H' : Hp) : Prop := ∀ a o, ¬ B a → H a = some o → H' a = some o ∧ ¬ B' a
theorem Keep.rd (f : Keep B B' H H') {a : Addr} {u : HO} (n : ¬ B a) (h : Rd H a u) : ¬ B' a ∧ Rd H' a u := by
  rcases h with h | ⟨o, h⟩
  · exact ⟨(f a _ n h).2, .inl (f a _ n h).1⟩
  · exact ⟨(f a _ n h).2, .inr ⟨o, (f a _ n h).1⟩⟩
theorem AtL.keep (f : Keep B B' H H') {a : Addr} {xs : List V} (h : AtL K B H a xs) : AtL K B' H' a xs := by
  rcases h with ⟨n, h⟩ | h
  · exact .inl (f.rd n h)
  · exact .inr h
theorem AtT.keep (f : Keep B B' H H') {a : Addr} {xs : List V} (h : AtT K B H a xs) : AtT K B' H' a xs := by
  rcases h with ⟨n, o, ho, h⟩ | h
  · exact .inl ⟨(f a _ n h).2, o, ho, (f a _ n h).1⟩
  · exact .inr h
theorem AtL.sq {a : Addr} {xs : List V} (h : AtL K B H a xs) : SqL K H a xs := by
  rcases h with ⟨_, h⟩ | h
  · exact .inl h
  · exact .inr h
theorem AtT.sq {a : Addr} {xs : List V} (h : AtT K B H a xs) : SqT K H a xs := by
  rcases h with ⟨_, o, _, h⟩ | ⟨_, o, its, n, h1, h2, h3, h4⟩
  · exact .inl (tuO_rd h)
  · exact .inr ⟨o, its, n, h1, h2, h4⟩
mutual
theorem Rp.keep (f : Keep B B' H H') : ∀ {v : V} {d : D}, Rp K B H v d → Rp K B' H' v d
  | _, _, .non => .non
  | _, _, .bl b => .bl b
  | _, _, .int i => .int i
  | _, _, .str x => .str x
  | _, _, .lst h r => .lst (h.keep f) (RpAll.keep f r)
  | _, _, .tup h r => .tup (h.keep f) (RpAll.keep f r)
  | _, _, .dK n h r => .dK (f.rd n h).1 (f.rd n h).2 (RpKv.keep f r)
  | _, _, .dT n h r => .dT (f.rd n h).1 (f.rd n h).2 (RpTv.keep f r)
  | _, _, .exn c n1 n2 h1 h2 r => .exn c (f _ _ n1 h1).2 (f _ _ n2 h2).2 (f _ _ n1 h1).1 (f _ _ n2 h2).1 (Rp.keep f r)
theorem RpAll.keep (f : Keep B B' H H') : ∀ {v : List V} {d : List D}, RpAll K B H v d → RpAll K B' H' v d
  | _, _, .nil => .nil
  | _, _, .cons h r => .cons (Rp.keep f h) (RpAll.keep f r)
theorem RpKv.keep (f : Keep B B' H H') : ∀ {v : List (Key × V)} {d : List (D × D)}, RpKv K B H v d → RpKv K B' H' v d
  | _, _, .nil => .nil
  | _, _, .cons h r => .cons (Rp.keep f h) (RpKv.keep f r)
theorem RpTv.keep (f : Keep B B' H H') : ∀ {v : List (List Key × V)} {d : List (D × D)}, RpTv K B H v d → RpTv K B' H' v d
  | _, _, .nil => .nil
  | _, _, .cons h r => .cons (Rp.keep f h) (RpTv.keep f r)
end
theorem RpAll.length : ∀ {vs : List V} {ds : List D}, RpAll K B H vs ds → vs.length = ds.length
  | _, _, .nil => rfl
  | _, _, .cons _ r => congrArg (· + 1) r.length
theorem RpAll.get : ∀ {vs : List V} {ds : List D}, RpAll K B H vs ds → ∀ {i : Nat} {d : D}, ds[i]? = some d → ∃ v, vs[i]? = some v ∧ Rp K B H v d
  | _, _, .nil, i, d, h => by simp at h
  | _, _, .cons h r, 0, d, e => by simp at e; subst e; exact ⟨_, rfl, h⟩
  | _, _, .cons _ r, i + 1, d, e => by
    obtain ⟨v, h1, h2⟩ := r.get (i := i) (by simpa using e)
    exact ⟨v, by simpa using h1, h2⟩
theorem RpAll.getV {vs : List V} {ds : List D} (r : RpAll K B H vs ds) {i : Nat} {v : V} (e : vs[i]? = some v) : ∃ d, ds[i]? = some d ∧ Rp K B H v d := by
  have hi : i < vs.length := (List.getElem?_eq_some_iff.mp e).1
  obtain ⟨u, h1, h2⟩ := r.get (List.getElem?_eq_getElem (by rw [← r.length]; exact hi))
  rw [e] at h1; cases h1
  exact ⟨_, List.getElem?_eq_getElem (by rw [← r.length]; exact hi), h2⟩
theorem RpAll.append : ∀ {vs us : List V} {ds es : List D}, RpAll K B H vs ds → RpAll K B H us es → RpAll K B H (vs ++ us) (ds ++ es)
  | _, _, _, _, .nil, s => s
  | _, _, _, _, .cons h r, s => .cons h (r.append s)
theorem RpAll.one {v : V} {d : D} (h : Rp K B H v d) : RpAll K B H [v] [d] := .cons h .nil
theorem RpAll.take (n : Nat) : ∀ {vs : List V} {ds : List D}, RpAll K B H vs ds → RpAll K B H (vs.take n) (ds.take n) := by
  induction n with
  | zero => intro vs ds h; simpa using RpAll.nil
  | succ n ih =>
    intro vs ds h
    cases h with
    | nil => exact .nil
    | cons h r => exact .cons h (ih r)
theorem RpAll.drop (n : Nat) : ∀ {vs : List V} {ds : List D}, RpAll K B H vs ds → RpAll K B H (vs.drop n) (ds.drop n) := by
  induction n with
  | zero => intro vs ds h; simpa using h
  | succ n ih =>
    intro vs ds h
    cases h with
    | nil => exact .nil
    | cons h r => exact ih r
theorem RpAll.set {v : V} {d : D} (h : Rp K B H v d) : ∀ (i : Nat) {vs : List V} {ds : List D}, RpAll K B H vs ds → RpAll K B H (vs.set i v) (ds.set i d)
  | _, _, _, .nil => .nil
  | 0, _, _, .cons _ r => .cons h r
  | i + 1, _, _, .cons g r => .cons g (RpAll.set h i r)
theorem RpAll.rep {vs : List V} {ds : List D} (h : RpAll K B H vs ds) : ∀ k : Nat, RpAll K B H (List.replicate k vs).flatten (List.replicate k ds).flatten
  | 0 => .nil
  | k + 1 => by
    rw [List.replicate_succ, List.replicate_succ, List.flatten_cons, List.flatten_cons]
    exact h.append (h.rep k)
def OwAt (K : PySem.W.Frag) (B : Addr → Prop) (H H' : Hp) (a : Addr) : D → Prop
  | .list xs => ∃ vs, H' a = some (.lst vs) ∧ RpAll K B H vs xs
  | .dict ds => (∃ kvs, H' a = some (.dK kvs) ∧ RpKv K B H kvs ds) ∨ ∃ kvs es, ds = (.tuple [], .none) :: es ∧ H' a = some (.dT kvs) ∧ RpTv K B H kvs es
  | _ => False
theorem OwAt.keep {H1 H1' : Hp} (f : Keep B B' H H') {a : Addr} (ha : ∀ o, H1 a = some o → H1' a = some o) {x : D} (h : OwAt K B H H1 a x) : OwAt K B' H' H1' a x := by
  cases x with
  | list xs => obtain ⟨vs, e, r⟩ := h; exact ⟨vs, ha _ e, r.keep f⟩
  | dict ds =>
    rcases h with ⟨vs, e, r⟩ | ⟨vs, es, q, e, r⟩
    · exact .inl ⟨vs, ha _ e, r.keep f⟩
    · exact .inr ⟨vs, es, q, ha _ e, r.keep f⟩
  | none => exact h.elim
  | bool b => exact h.elim
  | int b => exact h.elim
  | str b => exact h.elim
  | tuple b => exact h.elim
theorem OwAt.some {H1 : Hp} {a : Addr} {x : D} (h : OwAt K B H H1 a x) : ∃ o, H1 a = .some o := by
  cases x with
  | list xs => obtain ⟨vs, e, r⟩ := h; exact ⟨_, e⟩
  | dict ds =>
    rcases h with ⟨vs, e, r⟩ | ⟨vs, es, q, e, r⟩
    · exact ⟨_, e⟩
    · exact ⟨_, e⟩
  | none => exact h.elim
  | bool b => exact h.elim
  | int b => exact h.elim
  | str b => exact h.elim
  | tuple b => exact h.elim
theorem OwAt.someN {H1 : Hp} {a : Addr} {x : D} (h : OwAt K B H H1 a x) : ∃ o, H1 a = .some o ∧ NoT o := by
  cases x with
  | list xs => obtain ⟨vs, e, r⟩ := h; exact ⟨_, e, fun _ q => nomatch q⟩
  | dict ds =>
    rcases h with ⟨vs, e, r⟩ | ⟨vs, es, q, e, r⟩
    · exact ⟨_, e, fun _ q => nomatch q⟩
    · exact ⟨_, e, fun _ q => nomatch q⟩
  | none => exact h.elim
  | bool b => exact h.elim
  | int b => exact h.elim
  | str b => exact h.elim
  | tuple b => exact h.elim
theorem OwAt.rp {a : Addr} {x : D} (n : ¬ B a) (h : OwAt K B H H a x) : Rp K B H (.ref a) x := by
  cases x with
  | list xs => obtain ⟨vs, e, r⟩ := h; exact .lst (.inl ⟨n, .inl e⟩) r
  | dict ds =>
    rcases h with ⟨vs, e, r⟩ | ⟨vs, es, q, e, r⟩
    · exact .dK n (.inl e) r
    · subst q; exact .dT n (.inl e) r
  | none => exact h.elim
  | bool b => exact h.elim
  | int b => exact h.elim
  | str b => exact h.elim
  | tuple b => exact h.elim
def RpW (K : PySem.W.Frag) (B : Addr → Prop) (H : Hp) (v : V) (x : D) : Prop := Rp K B H v x ∨ ∃ a, v = .ref a ∧ OwAt K B H H a x
theorem RpW.list {v : V} {xs : List D} (h : RpW K B H v (.list xs)) : ∃ a vs, v = .ref a ∧ SqL K H a vs ∧ RpAll K B H vs xs := by
  rcases h with h | ⟨a, rfl, vs, e, r⟩
  · cases h with
    | lst h r => exact ⟨_, _, rfl, h.sq, r⟩
  · exact ⟨a, vs, rfl, .inl (.inl e), r⟩
theorem RpW.tuple {v : V} {xs : List D} (h : RpW K B H v (.tuple xs)) : ∃ a vs, v = .ref a ∧ SqT K H a vs ∧ RpAll K B H vs xs ∧ Rp K B H v (.tuple xs) := by
  rcases h with h | ⟨a, rfl, h⟩
  · cases h with
    | tup h r => exact ⟨_, _, rfl, h.sq, r, .tup h r⟩
  · exact h.elim
theorem RpW.int {v : V} {i : Int} (h : RpW K B H v (.int i)) : v = .int i := by
  rcases h with h | ⟨a, rfl, h⟩
  · cases h; rfl
  · exact h.elim
theorem RpW.bool {v : V} {b : Bool} (h : RpW K B H v (.bool b)) : v = .bl b := by
  rcases h with h | ⟨a, rfl, h⟩
  · cases h; rfl
  · exact h.elim
theorem RpW.str {v : V} {b : Str} (h : RpW K B H v (.str b)) : v = .str b := by
  rcases h with h | ⟨a, rfl, h⟩
  · cases h; rfl
  · exact h.elim
theorem RpW.none {v : V} (h : RpW K B H v .none) : v = .non := by
  rcases h with h | ⟨a, rfl, h⟩
  · cases h; rfl
  · exact h.elim
theorem RpW.keep (f : Keep B B' H H') (g : ∀ a o, H a = some o → B a → H' a = some o) {v : V} {x : D} (h : RpW K B H v x) : RpW K B' H' v x := by
  rcases h with h | ⟨a, rfl, h⟩
  · exact .inl (h.keep f)
  · refine .inr ⟨a, rfl, h.keep f fun o e => ?_⟩
    by_cases n : B a
    · exact g a o e n
    · exact (f a o n e).1
theorem plainAll_cons {x : D} {xs : List D} (h : PyData.plainAll (x :: xs) = true) : x.plain = true ∧ PyData.plainAll xs = true := by
  simpa [PyData.plainAll] using h
mutual
theorem Rp.dp : ∀ {v : V} {d : D}, Rp K B H v d → d.plain = true → Dp K H v d
  | _, _, .non, _ => .non
  | _, _, .bl b, _ => .bl b
  | _, _, .int i, _ => .int i
  | _, _, .str x, _ => .str x
  | _, _, .lst h r, c => .lst h.sq (RpAll.dp r (by simpa [PyData.plain] using c))
  | _, _, .tup h r, c => .tup h.sq (RpAll.dp r (by simpa [PyData.plain] using c))
  | _, _, .dK _ _ _, c => by simp [PyData.plain] at c
  | _, _, .dT _ _ _, c => by simp [PyData.plain] at c
  | _, _, .exn _ _ _ _ _ _, c => by simp [PyData.plain] at c
theorem RpAll.dp : ∀ {v : List V} {d : List D}, RpAll K B H v d → PyData.plainAll d = true → DpAll K H v d
  | _, _, .nil, _ => .nil
  | _, _, .cons h r, c => .cons (h.dp (plainAll_cons c).1) (r.dp (plainAll_cons c).2)
end
theorem RpW.dp {v : V} {d : D} (h : RpW K B H v d) (c : d.plain = true) : Dp K H v d := by
  rcases h with h | ⟨a, rfl, h⟩
  · exact h.dp c
  · cases d with
    | list xs => obtain ⟨vs, e, r⟩ := h; exact .lst (.inl (.inl e)) (r.dp (by simpa [PyData.plain] using c))
    | dict ds => simp [PyData.plain] at c
    | none => exact h.elim
    | bool b => exact h.elim
    | int b => exact h.elim
    | str b => exact h.elim
    | tuple b => exact h.elim
end
def Bar (M : List Addr) (U : Addr → Prop) (a : Addr) : Prop := a ∈ M ∨ U a
def RpU (K : PySem.W.Frag) (M : List Addr) (U Z : Addr → Prop) (H : Hp) (v : V) (x : D) : Prop := Rp K (Bar M U) H v x ∨ ∃ a, v = .ref a ∧ (U a ∧ Z a) ∧ OwAt K (Bar M U) H H a x
def OwV (σ : L2.St) (env : Ev) (a : Addr) : Prop := ∃ (i : Nat) (x : D), (look env i = .ow x ∨ look env i = .lk x) ∧ (σ[i]?).join = some (.ref a)
theorem RpU.w {K : PySem.W.Frag} {M : List Addr} {U Z : Addr → Prop} {H : Hp} {v : V} {x : D} (h : RpU K M U Z H v x) : RpW K (Bar M U) H v x := by
  rcases h with h | ⟨a, e, _, h⟩
  · exact .inl h
  · exact .inr ⟨a, e, h⟩
structure StoOk (K : PySem.W.Frag) (M : List Addr) (U : Addr → Prop) (H : Hp) (st : Sto) : Prop where
  len : M.length = st.length
  nd : M.Nodup
  ap : ∀ a ∈ M, ¬ U a
  box : ∀ (n : Nat) (xs : List D), st[n]? = some xs → ∃ (a : Addr) (vs : List V), M[n]? = some a ∧ H a = some (.lst vs) ∧ RpAll K (Bar M U) H vs xs
  trN : ∀ a, U a → ∃ o, H a = some o ∧ NoT o
structure Stp (M : List Addr) (H : Hp) (M' : List Addr) (H' : Hp) : Prop where
  pre : M <+: M'
  new : ∀ a ∈ M', a ∈ M ∨ H a = none
  fr : ∀ a o, a ∉ M → H a = some o → H' a = some o
def KtAt (M : List Addr) (U : Addr → Prop) (H : Hp) (ys : List Str) (o : Option V) : Prop := ∃ (a : Addr) (ob : Obj), o = some (.ref a) ∧ ob.dict = none ∧ H a = some (.frz ob (.tup (ys.map V.str))) ∧ ¬ Bar M U a
theorem KtAt.keep {M M' : List Addr} {U U' : Addr → Prop} {H H' : Hp} {ys : List Str} {o : Option V} (h : KtAt M U H ys o) (f : Keep (Bar M U) (Bar M' U') H H') : KtAt M' U' H' ys o := by
  obtain ⟨a, ob, e, d, h, n⟩ := h
  exact ⟨a, ob, e, d, (f a _ n h).1, (f a _ n h).2⟩
def SltR (K : PySem.W.Frag) (M : List Addr) (U : Addr → Prop) (H : Hp) (s : Slot) (o : Option V) : Prop := match s with
  | .no => True
  | .sh x => ∃ v, o = some v ∧ Rp K (Bar M U) H v x
  | .ow x => ∃ a, o = some (.ref a) ∧ U a ∧ OwAt K (Bar M U) H H a x
  | .lk x => ∃ a, o = some (.ref a) ∧ U a ∧ OwAt K (Bar M U) H H a x
  | .rf n => ∃ a, M[n]? = some a ∧ o = some (.ref a)
  | .kt ys => KtAt M U H ys o
structure ER (K : PySem.W.Frag) (M : List Addr) (U : Addr → Prop) (H : Hp) (st : Sto) (σ : L2.St) (env : Ev) : Prop where
  sto : StoOk K M U H st
  len : env.length = σ.length
  env : ∀ i, SltR K M U H (look env i) (σ[i]?).join
section
variable {K : PySem.W.Frag} {M M' M2 : List Addr} {U U' : Addr → Prop} {H H' H2 : Hp} {st st' : Sto} {σ : L2.St} {env : Ev}
theorem StoOk.tr (s : StoOk K M U H st) : ∀ a, U a → ∃ o, H a = some o := fun a u => let ⟨o, e, _⟩ := s.trN a u; ⟨o, e⟩
theorem StoOk.trackedN (s : StoOk K M U H st) : ∀ a, Bar M U a → ∃ o, H a = some o ∧ NoT o := fun a h => by
  rcases h with h | h
  · obtain ⟨n, hn, e⟩ := List.getElem_of_mem h
    have hs : n < st.length := by rw [← s.len]; exact hn
    obtain ⟨b, vs, h1, h2, _⟩ := s.box n (st[n]) (List.getElem?_eq_getElem hs)
    rw [List.getElem?_eq_getElem hn, e] at h1
    cases h1
    exact ⟨_, h2, fun _ q => nomatch q⟩
  · exact s.trN a h
theorem StoOk.tracked (s : StoOk K M U H st) : ∀ a, Bar M U a → ∃ o, H a = some o := fun a h => by
  rcases h with h | h
  · obtain ⟨n, hn, e⟩ := List.getElem_of_mem h
    have hs : n < st.length := by rw [← s.len]; exact hn
    obtain ⟨b, vs, h1, h2, _⟩ := s.box n (st[n]) (List.getElem?_eq_getElem hs)
    rw [List.getElem?_eq_getElem hn, e] at h1
    cases h1
    exact ⟨_, h2⟩
  · exact s.tr a h
theorem Stp.refl : Stp M H M H := ⟨List.prefix_refl _, fun _ h => .inl h, fun _ _ _ h => h⟩
theorem Stp.mem (s : Stp M H M' H') {a : Addr} (h : a ∈ M) : a ∈ M' := s.pre.subset h
theorem Stp.old (s : Stp M H M' H') {a : Addr} {o : HO} (n : a ∉ M) (h : H a = some o) : a ∉ M' := fun q => by
  rcases s.new a q with z | z
  · exact n z
  · rw [z] at h; cases h
theorem Stp.none_of (s : Stp M H M' H') {a : Addr} (n : a ∉ M) (h : H' a = none) : H a = none := by
  cases q : H a with
  | none => rfl
  | some o => rw [s.fr a o n q] at h; cases h
theorem Stp.trans (s : Stp M H M' H') (t : Stp M' H' M2 H2) : Stp M H M2 H2 where
  pre := s.pre.trans t.pre
  new := fun a h => by
    rcases t.new a h with z | z
    · exact s.new a z
    · by_cases n : a ∈ M
      · exact .inl n
      · exact .inr (s.none_of n z)
  fr := fun a o n h => t.fr a o (s.old n h) (s.fr a o n h)
theorem Stp.grow (g : ∀ a o, H a = some o → H' a = some o) : Stp M H M H' := ⟨List.prefix_refl _, fun _ h => .inl h, fun a o _ h => g a o h⟩
theorem Stp.keep (s : Stp M H M' H') : Keep (Bar M U) (Bar M' U) H H' := fun a o n h => by
  have nm : a ∉ M := fun z => n (.inl z)
  refine ⟨s.fr a o nm h, fun z => ?_⟩
  rcases z with z | z
  · exact s.old nm h z
  · exact n (.inr z)
theorem StoOk.grow (s : StoOk K M U H st) (g : ∀ a o, H a = some o → H' a = some o) : StoOk K M U H' st :=
  ⟨s.len, s.nd, s.ap, fun n xs e => by
    obtain ⟨a, vs, h1, h2, h3⟩ := s.box n xs e
    exact ⟨a, vs, h1, g _ _ h2, h3.keep (Stp.grow g).keep⟩, fun a h => let ⟨o, e, n⟩ := s.trN a h; ⟨o, g _ _ e, n⟩⟩
theorem Rp.step (s : Stp M H M' H') {v : V} {x : D} (h : Rp K (Bar M U) H v x) : Rp K (Bar M' U) H' v x := h.keep s.keep
theorem RpAll.step (s : Stp M H M' H') {v : List V} {x : List D} (h : RpAll K (Bar M U) H v x) : RpAll K (Bar M' U) H' v x := h.keep s.keep
theorem RpU.step {Z : Addr → Prop} (s : Stp M H M' H') (ap : ∀ a ∈ M, ¬ U a) {v : V} {x : D} (h : RpU K M U Z H v x) : RpU K M' U Z H' v x := by
  rcases h with h | ⟨a, e, u, q⟩
  · exact .inl (h.step s)
  · exact .inr ⟨a, e, u, q.keep s.keep fun o e => s.fr a o (fun z => ap a z u.1) e⟩
theorem SltR.step (s : Stp M H M' H') (ap : ∀ a ∈ M, ¬ U a) {sl : Slot} {o : Option V} (h : SltR K M U H sl o) : SltR K M' U H' sl o := by
  have ow : ∀ {a x}, U a → OwAt K (Bar M U) H H a x → OwAt K (Bar M' U) H' H' a x := fun {a x} u q => q.keep s.keep fun o e => s.fr a o (fun z => ap a z u) e
  cases sl with
  | no => trivial
  | sh x => obtain ⟨v, e, r⟩ := h; exact ⟨v, e, r.step s⟩
  | kt y => exact h.keep s.keep
  | ow x => obtain ⟨a, e, u, q⟩ := h; exact ⟨a, e, u, ow u q⟩
  | lk x => obtain ⟨a, e, u, q⟩ := h; exact ⟨a, e, u, ow u q⟩
  | rf n =>
    obtain ⟨a, e, q⟩ := h
    refine ⟨a, ?_, q⟩
    obtain ⟨t, rfl⟩ := s.pre
    rw [List.getElem?_append_left (List.getElem?_eq_some_iff.mp e).1]
    exact e
theorem ER.step (r : ER K M U H st σ env) (s : Stp M H M' H') (so : StoOk K M' U H' st') : ER K M' U H' st' σ env :=
  ⟨so, r.len, fun i => (r.env i).step s r.sto.ap⟩
theorem StoOk.less (s : StoOk K M U H st) (h : ∀ a, U' a → U a) : StoOk K M U' H st :=
  ⟨s.len, s.nd, fun a m u => s.ap a m (h a u), fun n xs e => by
    obtain ⟨a, vs, h1, h2, h3⟩ := s.box n xs e
    exact ⟨a, vs, h1, h2, h3.keep fun b o nb e => ⟨e, fun z => nb (z.elim .inl fun z => .inr (h b z))⟩⟩, fun a u => s.trN a (h a u)⟩
def EPost (K : PySem.W.Frag) (M : List Addr) (U : Addr → Prop) (H : Hp) (st' : Sto) (w : Vl) (Q : VK) : Prop := match w with
  | .d x => ∀ v H' M', Stp M H M' H' → StoOk K M' U H' st' → Rp K (Bar M' U) H' v x → Q v H'
  | .fr x => ∀ a H' M', Stp M H M' H' → H a = none → StoOk K M' (fun b => U b ∨ b = a) H' st' → OwAt K (Bar M' fun b => U b ∨ b = a) H' H' a x → Q (.ref a) H'
  | .rf n => ∀ a H' M', Stp M H M' H' → StoOk K M' U H' st' → M'[n]? = some a → Q (.ref a) H'
def SemE (K : PySem.W.Frag) (f : Ev → Sto → Option (Vl × Sto)) : TE := fun σ H Q => ∃ M U st env w st', ER K M U H st σ env ∧ f env st = some (w, st') ∧ EPost K M U H st' w Q
def DPost (K : PySem.W.Frag) (M : List Addr) (U : Addr → Prop) (H : Hp) (st' : Sto) (x : D) (Q : VK) : Prop := ∀ v H' M', Stp M H M' H' → StoOk K M' U H' st' → Rp K (Bar M' U) H' v x → Q v H'
def SemD (K : PySem.W.Frag) (f : Ev → Sto → Option (D × Sto)) : TE := fun σ H Q => ∃ M U st env x st', ER K M U H st σ env ∧ f env st = some (x, st') ∧ DPost K M U H st' x Q
def BPost (K : PySem.W.Frag) (M : List Addr) (U Z : Addr → Prop) (H : Hp) (st' : Sto) (x : D) (Q : VK) : Prop := ∀ v H' M', Stp M H M' H' → StoOk K M' U H' st' → RpU K M' U Z H' v x → Q v H'
def SemBZ (z : L2.St → Ev → Addr → Prop) (K : PySem.W.Frag) (f : Ev → Sto → Option (D × Sto)) : TE := fun σ H Q => ∃ M U st env x st', ER K M U H st σ env ∧ f env st = some (x, st') ∧ BPost K M U (z σ env) H st' x Q
abbrev SemB (K : PySem.W.Frag) (f : Ev → Sto → Option (D × Sto)) : TE := SemBZ OwV K f
def SemT (K : PySem.W.Frag) (f : Ev → Sto → Option (Bool × Sto)) : TT := fun σ H Q => ∃ M U st env b st', ER K M U H st σ env ∧ f env st = some (b, st') ∧ ∀ H' M', Stp M H M' H' → StoOk K M' U H' st' → Q b H'
theorem EPost.toD {w : Vl} {x : D} {Q : VK} (tr : ∀ a, U a → ∃ o, H a = some o) (h : w.toD = some x) (q : DPost K M U H st' x Q) : EPost K M U H st' w Q := by
  cases w with
  | d y => cases h; exact q
  | fr y =>
    cases h
    intro a H' M' s ha so ow
    have na : ¬ Bar M' U a := fun z => by
      rcases z with z | z
      · exact so.ap a z (.inr rfl)
      · obtain ⟨o, e⟩ := tr a z
        rw [ha] at e; cases e
    refine q _ H' M' s (so.less fun b u => .inl u) (OwAt.rp na ?_)
    exact ow.keep (fun b o nb e => ⟨e, fun z => nb (z.elim .inl fun z => .inr (.inl z))⟩) fun _ e => e
  | rf n => cases h
end
section
variable {X : Cx} {K : PySem.W.Frag} {e : Expr}
theorem peImp {t t' : TE} (h : PE X e t) (f : ∀ σ H Q, t' σ H Q → t σ H Q) : PE X e t' := ⟨fun pins s σ H Q I q => h.run pins s σ H Q I (f σ H Q q)⟩
theorem ptImp {t t' : TT} (h : PT X e t) (f : ∀ σ H Q, t' σ H Q → t σ H Q) : PT X e t' := ⟨fun pins s σ H Q I q => h.run pins s σ H Q I (f σ H Q q)⟩
theorem semD_of {f : Ev → Sto → Option (Vl × Sto)} (h : PE X e (SemE K f)) : PE X e (SemD K fun env st => toD (f env st)) := peImp h fun σ H Q ⟨M, U, st, env, x, st', er, ex, q⟩ => by
  obtain ⟨w, s, h1, h2⟩ := bnd_eq ex
  cases hw : w.toD with
  | none => rw [hw] at h2; cases h2
  | some y =>
    rw [hw] at h2
    cases h2
    exact ⟨M, U, st, env, w, _, er, h1, EPost.toD er.sto.tr hw q⟩
theorem semB_of {z : L2.St → Ev → Addr → Prop} {f : Ev → Sto → Option (D × Sto)} (h : PE X e (SemD K f)) : PE X e (SemBZ z K f) := peImp h fun σ H Q ⟨M, U, st, env, x, st', er, ex, q⟩ =>
  ⟨M, U, st, env, x, st', er, ex, fun v H' M' s so r => q v H' M' s so (.inl r)⟩
def OPost (K : PySem.W.Frag) (B : Addr → Prop) (H : Hp) (w : Vl) (Q : VK) : Prop := match w with
  | .d x => ∀ v H', (∀ a o, H a = some o → H' a = some o) → Rp K B H' v x → Q v H'
  | .fr x => ∀ a H', (∀ a o, H a = some o → H' a = some o) → H a = none → OwAt K B H H' a x → Q (.ref a) H'
  | .rf _ => False
theorem EPost.op {M M1 : List Addr} {U : Addr → Prop} {H H1 : Hp} {st : Sto} {w : Vl} {Q : VK} (q : EPost K M U H st w Q) (s : Stp M H M1 H1) (so : StoOk K M1 U H1 st) (hw : ∀ n, w ≠ .rf n) : OPost K (Bar M1 U) H1 w Q := by
  cases w with
  | d x => exact fun v H' g r => q v H' M1 (s.trans (Stp.grow g)) (so.grow g) r
  | fr x =>
    intro a H' g ha ow
    have nM : a ∉ M1 := fun z => by
      obtain ⟨o, e⟩ := so.tracked a (.inl z)
      rw [ha] at e; cases e
    have nM0 : a ∉ M := fun z => nM (s.mem z)
    have kp : Keep (Bar M1 U) (Bar M1 fun b => U b ∨ b = a) H1 H' := fun b o nb e => ⟨g b o e, fun z => by
      rcases z with z | z | z
      · exact nb (.inl z)
      · exact nb (.inr z)
      · subst z; rw [ha] at e; cases e⟩
    refine q a H' M1 (s.trans (Stp.grow g)) (s.none_of nM0 ha) ⟨so.len, so.nd, fun b m z => ?_, fun n xs e => ?_, fun b z => ?_⟩ ?_
    · rcases z with z | z
      · exact so.ap b m z
      · subst z; exact nM m
    · obtain ⟨b, vs, h1, h2, h3⟩ := so.box n xs e
      exact ⟨b, vs, h1, g _ _ h2, h3.keep kp⟩
    · rcases z with z | z
      · obtain ⟨o, e, n⟩ := so.trN b z
        exact ⟨o, g _ _ e, n⟩
      · subst z; exact ow.someN
    · cases x with
      | list xs => obtain ⟨vs, e, r⟩ := ow; exact ⟨vs, e, r.keep kp⟩
      | dict ds =>
        rcases ow with ⟨vs, e, r⟩ | ⟨vs, es, q, e, r⟩
        · exact .inl ⟨vs, e, r.keep kp⟩
        · exact .inr ⟨vs, es, q, e, r.keep kp⟩
      | none => exact ow.elim
      | bool b => exact ow.elim
      | int b => exact ow.elim
      | str b => exact ow.elim
      | tuple b => exact ow.elim
  | rf n => exact absurd rfl (hw n)
def rOp (K : PySem.W.Frag) (f : D → D → Option Vl) : R2 := fun v u H Q => ∃ B x y w, (∀ a, B a → ∃ o, H a = some o) ∧ RpW K B H v x ∧ RpW K B H u y ∧ f x y = some w ∧ OPost K B H w Q
def rFn (K : PySem.W.Frag) (f : D → Option Vl) : V → Hp → VK → Prop := fun v H Q => ∃ B x w, (∀ a, B a → ∃ o, H a = some o ∧ NoT o) ∧ RpW K B H v x ∧ f x = some w ∧ OPost K B H w Q
def NoRf (w : Vl) : Prop := ∀ n, w ≠ .rf n
theorem sem_op {fa fb : Ev → Sto → Option (D × Sto)} {f : D → D → Option Vl} (nf : ∀ x y w, f x y = some w → NoRf w) (σ : L2.St) (H : Hp) (Q : VK)
    (h : SemE K (fun env st => bnd (fa env st) fun x s => bnd (fb env s) fun y s' => ret (f x y) s') σ H Q) : tOp (rOp K f) (SemB K fa) (SemB K fb) σ H Q := by
  obtain ⟨M, U, st, env, w, st', er, ex, q⟩ := h
  obtain ⟨x, s, e1, ex⟩ := bnd_eq ex
  obtain ⟨y, s', e2, ex⟩ := bnd_eq ex
  obtain ⟨w', e3, ex⟩ := Option.map_eq_some_iff.mp ex
  cases ex
  refine ⟨M, U, st, env, x, s, er, e1, fun v H1 M1 s1 so1 r1 => ⟨M1, U, s, env, y, _, er.step s1 so1, e2, fun u H2 M2 s2 so2 r2 => ?_⟩⟩
  exact ⟨Bar M2 U, x, y, w, so2.tracked, (r1.step s2 so1.ap).w, r2.w, e3, EPost.op q (s1.trans s2) so2 (nf _ _ _ e3)⟩
theorem sem_fn {fa : Ev → Sto → Option (D × Sto)} {f : D → Option Vl} (nf : ∀ x w, f x = some w → NoRf w) (σ : L2.St) (H : Hp) (Q : VK)
    (h : SemE K (fun env st => bnd (fa env st) fun x s => ret (f x) s) σ H Q) : tUn (rFn K f) (SemB K fa) σ H Q := by
  obtain ⟨M, U, st, env, w, st', er, ex, q⟩ := h
  obtain ⟨x, s, e1, ex⟩ := bnd_eq ex
  obtain ⟨w', e3, ex⟩ := Option.map_eq_some_iff.mp ex
  cases ex
  exact ⟨M, U, st, env, x, _, er, e1, fun v H1 M1 s1 so1 r1 => ⟨Bar M1 U, x, w, so1.trackedN, r1.w, e3, EPost.op q s1 so1 (nf _ _ e3)⟩⟩
end
end Pi

end
section
set_option Elab.async false
set_option linter.all false
set_option maxRecDepth 100000
set_option maxHeartbeats 1000000
namespace Pi
open PySem PySem.Spec PyProof.Rows L2
theorem int_rmul_listW (a : Int) (t : Tok) (l : Addr) (items : Array Value) (n : Nat) (dd : Option Addr) (sl : Array (Option Value)) :
    Meets (Builtin.«int.__rmul__» ⟨[.int a t, .ref l], []⟩) (fun _ R s => s.heap.get? l = some { cls := .type "list", dict := dd, data := .seq items n, slots := sl } ∧ R (.ok (.ret Value.notImplemented)) s) :=
  .of_wp fun prog w A R s h => by obtain ⟨hp, g, d, tk, os⟩ := s; obtain ⟨hl, h⟩ := h; wp_walk; exact ⟨_, rfl, h⟩
theorem list_mulW (l : Addr) (items : Array Value) (n : Nat) (dd : Option Addr) (sl : Array (Option Value)) (x : Int) (u : Tok) (hc0 : ¬(!Builtin.List.listFitsIndex x) = true) (hc1 : ¬items.size * x.toNat > (2 ^ 63 - 1) / 8) (hc2 : ¬Builtin.List.listTooLong (items.size * x.toNat) = true) :
    Meets (Builtin.«list.__mul__» ⟨[.ref l, .int x u], []⟩) (fun _ R s => s.heap.get? l = some { cls := .type "list", dict := dd, data := .seq items n, slots := sl } ∧ R (.ok (.ret (Value.ref s.heap.objs.size))) { s with heap := s.heap.push { cls := Value.type "list", data := Data.seq (List.foldl (fun x1 x2 => x1 ++ x2) #[] (List.replicate (if items.isEmpty = true then 0 else x.toNat) items)) }, toks := s.toks }) :=
  .of_wp fun prog w A R s h => by
    obtain ⟨hp, g, d, tk, os⟩ := s; obtain ⟨hl, h⟩ := h
    have hsz := AutoListH.joined_fits hc2
    wp_walk; refine wpAny_ite_false (decide_eq_false (Nat.not_lt.mpr hsz)) ?_; wp_walk; exact ⟨_, rfl, h⟩
section
variable {X : Cx}
theorem SL_le {n : Nat} (h : n ≤ SL) : n ≤ sizeLine := Nat.le_trans h (by decide)
theorem grow0 {H : Hp} : ∀ a o, H a = some o → H a = some o := fun _ _ h => h
theorem growN {H : Hp} {p : Addr} {o : HO} (n : H p = none) : ∀ a u, H a = some u → upd H p o a = some u := fun a u h => by
  rw [upd_ne (ne_of_none h n)]; exact h
theorem keepN {B : Addr → Prop} {H : Hp} {p : Addr} {o : HO} (tr : ∀ a, B a → ∃ o, H a = some o) (n : H p = none) : Keep B B H (upd H p o) := fun a u nb h => ⟨growN n a u h, nb⟩
theorem notB {B : Addr → Prop} {H : Hp} {p : Addr} (tr : ∀ a, B a → ∃ o, H a = some o) (n : H p = none) : ¬ B p := fun b => by
  obtain ⟨o, e⟩ := tr p b
  rw [n] at e; cases e
section
variable {K : PySem.W.Frag} {B : Addr → Prop} {H : Hp} {Q : VK}
theorem tupEnd {vs : List V} {xs : List D} (tr : ∀ a, B a → ∃ o, H a = some o) (r : RpAll K B H vs xs) (q : OPost K B H (.d (.tuple xs)) Q) : Pk.KnQ H vs Q := fun p o n ho =>
  q _ _ (growN n) (.tup (.inl ⟨notB tr n, o, ho, upd_same⟩) (r.keep (keepN tr n)))
theorem lstEnd {vs : List V} {xs : List D} (r : RpAll K B H vs xs) (q : OPost K B H (.fr (.list xs)) Q) {p : Addr} (n : H p = none) : Q (.ref p) (upd H p (.lst vs)) :=
  q p _ (growN n) n ⟨vs, upd_same, r⟩
end
theorem inv_new {pins : List (Addr × Obj)} {σ : L2.St} {H : Hp} {s : Shared} {ys : List V} {its : List Value} (I : Inv X pins σ H s) (hv : Vals ys its) (hz : ys.length ≤ sizeLine) :
    Inv X pins σ (upd H s.heap.objs.size (.lst ys)) { s with heap := s.heap.push { cls := .type "list", data := .seq its.toArray } } := I.lnew (t' := s.toks) hv hz
theorem cat_lists {pins : List (Addr × Obj)} {σ : L2.St} {H : Hp} {s : Shared} {a b : Addr} {xs ys : List V} {Q : VK} (I : Inv X pins σ H s) (ha : SqL X.K H a xs) (hb : SqL X.K H b ys) (hz : xs.length + ys.length ≤ sizeLine)
    (q : ∀ p, H p = none → Q (.ref p) (upd H p (.lst (xs ++ ys)))) : wpAny (model X.prog X.w) X.A (binaryOp .Add (.ref a) (.ref b)) (EP X pins σ Q) X.xe s := by
  obtain ⟨its, r, p, _⟩ := I.list ha
  obtain ⟨its2, r2, p2, _⟩ := I.list hb
  obtain ⟨⟨c1, d1, dt1, sl1⟩, ho, hc, n, hd⟩ := p.isList
  obtain ⟨⟨c2, d2, dt2, sl2⟩, ho2, hc2, n2, hd2⟩ := p2.isList
  simp only at hc hd hc2 hd2
  subst hc hd hc2 hd2
  have l1 := r.length
  have l2 := r2.length
  refine concat_meets ⟨_, ho, rfl⟩ ⟨_, ho2, rfl⟩ noFill_list_add seq_list_add PySem.F.slot_list_add PySem.F.entry_list_add (PySem.F.args_list_add_2 _ _)
    (list_addW a b its.toArray its2.toArray n n2 d1 d2 sl1 sl2 (by rw [List.size_toArray, List.size_toArray]; omega)) ⟨ho, ho2, ?_⟩
  rw [show its.toArray ++ its2.toArray = (its ++ its2).toArray by simp]
  exact ⟨.ref _, _, inv_new I (r.append r2) (by rw [List.length_append]; omega), rfl, q _ I.fresh⟩
theorem rep_lists {pins : List (Addr × Obj)} {σ : L2.St} {H : Hp} {s : Shared} {a : Addr} {xs : List V} {k : Int} {t : Tok} {Q : VK} (I : Inv X pins σ H s) (ha : SqL X.K H a xs) (h1 : -(2 ^ 63) ≤ k) (h2 : k < 2 ^ 63) (hz : xs.length * k.toNat ≤ sizeLine)
    (q : ∀ p, H p = none → Q (.ref p) (upd H p (.lst (List.replicate k.toNat xs).flatten))) : wpAny (model X.prog X.w) X.A (binaryOp .Mult (.ref a) (.int k t)) (EP X pins σ Q) X.xe s := by
  obtain ⟨its, r, p, _⟩ := I.list ha
  obtain ⟨⟨c1, d1, dt1, sl1⟩, ho, hc, n, hd⟩ := p.isList
  simp only at hc hd
  subst hc hd
  have hl := r.length
  have hlen : its.toArray.size * k.toNat ≤ sizeLine := by rw [List.size_toArray, ← hl]; exact hz
  have hcap : ¬ its.toArray.size * k.toNat > (2 ^ 63 - 1) / 8 := by
    have : (sizeLine : Nat) ≤ (2 ^ 63 - 1) / 8 := by decide
    omega
  have hfit : ¬ (!Builtin.List.listFitsIndex k) = true := by
    rw [fitsIndex_both h1 h2]
    exact Bool.false_ne_true
  have hlong : ¬ Builtin.List.listTooLong (its.toArray.size * k.toNat) = true := by
    rw [notLongL hlen]
    exact Bool.false_ne_true
  have hnew : List.foldl (fun x1 x2 => x1 ++ x2) #[] (List.replicate (if its.toArray.isEmpty = true then 0 else k.toNat) its.toArray) = (List.replicate k.toNat its).flatten.toArray := by
    have f0 : ∀ m : Nat, List.foldl (fun x1 x2 => x1 ++ x2) #[] (List.replicate m its.toArray) = (List.replicate m its).flatten.toArray := fun m => by
      have := foldl_rep its m []
      rw [List.nil_append] at this
      exact this
    rw [f0]
    cases its with
    | nil => simp
    | cons a r' => rw [if_neg (by simp)]
  refine wpAny_binaryOp_repeat_ref (T := "list") (U := "int") (by decide) ⟨_, ho, rfl⟩ (fun s' => typeIs_int s' k t) noFill_list_mul F.fills_int_mul F.slot_int_rmul repeat_list F.slot_int_index.lookup
    (call_meets F.slot_int_rmul (typeIs_int s k t) F.entry_int_rmul (F.args_int_rmul_2 _ _) (int_rmul_listW k t a its.toArray n d1 sl1)
      ⟨ho, rfl, ⟨_, ho, rfl⟩, call_meets F.slot_list_mul ⟨_, ho, rfl⟩ F.entry_list_mul (F.args_list_mul_2 _ _) (list_mulW a its.toArray n d1 sl1 k t hfit hcap hlong) ⟨ho, ?_⟩⟩)
  rw [hnew]
  exact ⟨.ref _, _, inv_new I (r.rep k.toNat) (by rw [PyProof.Rows.lm_len_rep_flat, Nat.mul_comm]; exact hz), rfl, q _ I.fresh⟩
theorem dec2 {p : Prop} [Decidable p] {α : Type} {x y : α} (h : (if p then some x else none) = some y) : p ∧ x = y := by
  split at h
  · cases h; exact ⟨‹_›, rfl⟩
  · cases h
theorem op_addP : OpR X (binaryOp .Add) (rOp X.K addD) := by
  intro pins s σ H v u vv uu Q I rx ry ⟨B, x, y, w, tr, hx, hy, e, q⟩
  unfold addD at e
  split at e
  · cases e
    cases hx.int; cases hy.int
    exact op_add pins s σ H _ _ _ _ Q I rx ry ⟨_, _, rfl, rfl, q _ _ grow0 (.int _)⟩
  · obtain ⟨hz, e⟩ := dec2 e
    cases e
    cases hx.str; cases hy.str
    exact op_add_str pins s σ H _ _ _ _ Q I rx ry ⟨_, _, rfl, rfl, SL_le hz, q _ _ grow0 (.str _)⟩
  · obtain ⟨hz, e⟩ := dec2 e
    cases e
    obtain ⟨a, vs, rfl, ha, ra⟩ := hx.list
    obtain ⟨b, us, rfl, hb, rb⟩ := hy.list
    cases rx; cases ry
    exact cat_lists I ha hb (by rw [ra.length, rb.length]; exact SL_le hz) fun p n => lstEnd (ra.append rb) q n
  · obtain ⟨hz, e⟩ := dec2 e
    cases e
    obtain ⟨a, vs, rfl, ha, ra, wa⟩ := hx.tuple
    obtain ⟨b, us, rfl, hb, rb, wb⟩ := hy.tuple
    refine Pk.op_catK pins s σ H _ _ _ _ Q I rx ry ⟨a, b, vs, us, rfl, rfl, ha, hb, by rw [ra.length, rb.length]; exact SL_le hz, fun e => ?_, fun _ e => ?_, fun _ _ => tupEnd tr (ra.append rb) q⟩
    · subst e
      cases ra
      exact q _ _ grow0 wb
    · subst e
      cases rb
      rw [List.append_nil] at q
      exact q _ _ grow0 wa
  · cases e
theorem op_mulP : OpR X (binaryOp .Mult) (rOp X.K mulD) := by
  intro pins s σ H v u vv uu Q I rx ry ⟨B, x, y, w, tr, hx, hy, e, q⟩
  unfold mulD at e
  split at e
  · obtain ⟨hz, e⟩ := dec2 e
    cases e
    cases hx.int; cases hy.int
    rcases of_decide_eq_true hz with h | h | h
    · exact op_mul pins s σ H _ _ _ _ Q I rx ry ⟨_, _, rfl, rfl, .inl h, q _ _ grow0 (.int _)⟩
    · exact op_mul pins s σ H _ _ _ _ Q I rx ry ⟨_, _, rfl, rfl, .inr h, q _ _ grow0 (.int _)⟩
    · exact op_mulW pins s σ H _ _ _ _ Q I rx ry ⟨_, _, rfl, rfl, h, q _ _ grow0 (.int _)⟩
  · obtain ⟨hz, e⟩ := dec2 e
    cases e
    obtain ⟨h1, h2, h3, h4⟩ := of_decide_eq_true hz
    obtain ⟨a, vs, rfl, ha, ra, wa⟩ := hx.tuple
    cases hy.int
    rename_i xs k
    by_cases h1' : k = 1
    · subst h1'
      refine Pk.op_repT1 pins s σ H _ _ _ _ Q I rx ry ⟨a, vs, rfl, rfl, ha, q _ _ grow0 ?_⟩
      rw [show repD xs 1 = xs by simp [repD]]
      exact wa
    refine Pk.op_repK pins s σ H _ _ _ _ Q I rx ry ⟨a, _, vs, rfl, rfl, ha, fun e => ?_, by omega, h2, by rw [ra.length]; exact h3, tupEnd tr (ra.rep _) q⟩
    subst e
    cases ra
    exact absurd h4 (by simp)
  · rename_i z k
    obtain ⟨hz, e⟩ := dec2 e
    cases e
    obtain ⟨h1, h2, h3⟩ := of_decide_eq_true hz
    cases hx.str
    cases hy.int
    obtain ⟨t, rfl⟩ := rx
    obtain ⟨t', rfl⟩ := ry
    have hs : (SL : Nat) = 16777216 := rfl
    refine PySem.P.mul_str (by rw [decide_eq_false (by omega), decide_eq_false (by omega)] <;> rfl) (fun c1 c2 => ?_) (fun c1 c2 => ?_) ?_
    · have h4 : ((z.length : Nat) : Int) * k ≤ 16777216 := by
        have h5 : ((z.length * k.toNat : Nat) : Int) ≤ (16777216 : Nat) := Int.ofNat_le.mpr h3
        rw [Int.natCast_mul, Int.toNat_of_nonneg h1] at h5
        exact h5
      have h6 : ((z.length : Nat) : Int) ≤ (2 ^ 63 - 1) / k := Int.le_ediv_of_mul_le (by omega) (by omega)
      omega
    · unfold Builtin.Str.tooLong
      rw [sizeLine_eq]
      exact decide_eq_false (by omega)
    · have q' : ∀ H' , (∀ a o, H a = some o → H' a = some o) → Q (.str (repStr z k)) H' := fun H' g => q _ _ g (.str _)
      unfold repStr at q'
      by_cases c1 : k < 1
      · rw [if_pos c1]
        rw [if_pos c1] at q'
        exact ⟨by decide, ⟨.str Str.empty, H, I.tok _, ⟨_, rfl⟩, q' _ grow0⟩⟩
      · rw [if_neg c1]
        rw [if_neg c1] at q'
        by_cases c2 : (k == 1 || z.length == 0) = true
        · rw [if_pos c2]
          rw [if_pos c2] at q'
          exact ⟨.str z, H, I, ⟨_, rfl⟩, q' _ grow0⟩
        · rw [if_neg c2]
          rw [if_neg c2] at q'
          refine ⟨?_, ⟨.str _, H, I.tok _, ⟨_, rfl⟩, q' _ grow0⟩⟩
          exact fits_reps (by unfold Builtin.Str.tooLong; rw [sizeLine_eq]; exact decide_eq_false (by omega))
  · rename_i xs k
    obtain ⟨hz, e⟩ := dec2 e
    cases e
    obtain ⟨h1, h2, h3⟩ := of_decide_eq_true hz
    obtain ⟨a, vs, rfl, ha, ra⟩ := hx.list
    cases hy.int
    cases rx
    obtain ⟨t, rfl⟩ := ry
    exact rep_lists I ha (by omega) (by omega) (by rw [ra.length]; exact SL_le h3) fun p n => lstEnd (ra.rep k.toNat) q n
  · cases e
theorem bin_ints {b : Bop} {f : Int → Int → Option Vl} {x y : D} {w : Vl} (h : (binD b x y = match x, y with | .int i, .int j => f i j | _, _ => none)) (e : binD b x y = some w) : ∃ i j, x = .int i ∧ y = .int j ∧ f i j = some w := by
  rw [h] at e
  split at e
  · exact ⟨_, _, rfl, rfl, e⟩
  · cases e
theorem op_fdivL {X : Cx} : OpR X (binaryOp .FloorDiv) (rI (fun i j => j ≠ 0 ∧ j.natAbs.log2 < 9000) fun i j => .int (i.fdiv j)) := opI fun _ _ _ _ _ _ _ hc q => floordiv_int hc.1 q (.inl (PyProof.noPylong_of_log2 hc.2))
theorem op_binP {op : Operator} {b : Bop} (h : op = (match b with | .add => .Add | .sub => .Sub | .mul => .Mult | .fdiv => .FloorDiv | .mod => .Mod | .pow => .Pow)) : OpR X (binaryOp op) (rOp X.K (binD b)) := by
  subst h
  cases b with
  | add => exact op_addP
  | mul => exact op_mulP
  | sub =>
    intro pins s σ H v u vv uu Q I rx ry ⟨B, x, y, w, tr, hx, hy, e, q⟩
    obtain ⟨i, j, rfl, rfl, e⟩ := bin_ints (f := fun i j => some (.d (.int (i - j)))) (by cases x <;> cases y <;> rfl) e
    cases e
    cases hx.int; cases hy.int
    exact op_sub pins s σ H _ _ _ _ Q I rx ry ⟨_, _, rfl, rfl, q _ _ grow0 (.int _)⟩
  | fdiv =>
    intro pins s σ H v u vv uu Q I rx ry ⟨B, x, y, w, tr, hx, hy, e, q⟩
    obtain ⟨i, j, rfl, rfl, e⟩ := bin_ints (f := fun i j => (fdivD i j).map fun k => .d (.int k)) (by cases x <;> cases y <;> rfl) e
    obtain ⟨k, e1, e⟩ := Option.map_eq_some_iff.mp e
    cases e
    cases hx.int; cases hy.int
    unfold fdivD at e1
    split at e1
    · rename_i hp
      obtain ⟨hl, e1⟩ := dec2 e1
      cases e1
      exact op_fdivW pins s σ H _ _ _ _ Q I rx ry ⟨_, _, rfl, rfl, ⟨hp, hl⟩, q _ _ grow0 (.int _)⟩
    · obtain ⟨hl, e1⟩ := dec2 e1
      cases e1
      exact op_fdivL pins s σ H _ _ _ _ Q I rx ry ⟨_, _, rfl, rfl, hl, q _ _ grow0 (.int _)⟩
  | mod =>
    intro pins s σ H v u vv uu Q I rx ry ⟨B, x, y, w, tr, hx, hy, e, q⟩
    obtain ⟨i, j, rfl, rfl, e⟩ := bin_ints (f := fun i j => (modD i j).map fun k => .d (.int k)) (by cases x <;> cases y <;> rfl) e
    obtain ⟨k, e1, e⟩ := Option.map_eq_some_iff.mp e
    cases e
    cases hx.int; cases hy.int
    unfold modD at e1
    split at e1
    · rename_i hp
      cases e1
      exact op_mod pins s σ H _ _ _ _ Q I rx ry ⟨_, _, rfl, rfl, hp, q _ _ grow0 (.int _)⟩
    · obtain ⟨hl, e1⟩ := dec2 e1
      cases e1
      exact op_modN pins s σ H _ _ _ _ Q I rx ry ⟨_, _, rfl, rfl, hl, q _ _ grow0 (.int _)⟩
  | pow =>
    intro pins s σ H v u vv uu Q I rx ry ⟨B, x, y, w, tr, hx, hy, e, q⟩
    obtain ⟨i, j, rfl, rfl, e⟩ := bin_ints (f := fun i j => (powD i j).map fun k => .d (.int k)) (by cases x <;> cases y <;> rfl) e
    obtain ⟨k, e1, e⟩ := Option.map_eq_some_iff.mp e
    cases e
    cases hx.int; cases hy.int
    obtain ⟨hl, e1⟩ := dec2 (show (if decide (0 ≤ j ∧ j ≤ 1000000 ∧ i.natAbs < 2 ^ 64) = true then some (i ^ j.toNat) else none) = some k from e1)
    cases e1
    exact op_pow pins s σ H _ _ _ _ Q I rx ry ⟨_, _, rfl, rfl, (of_decide_eq_true hl : 0 ≤ j ∧ j ≤ 1000000 ∧ i.natAbs < 2 ^ 64), q _ _ grow0 (.int _)⟩
def bV (f : D → D → Option Bool) (x y : D) : Option Vl := (f x y).map fun k => .d (.bool k)
theorem okD_of {x : D} (h : okD x = true) : x.plain = true ∧ x.depth ≤ 60 := by
  unfold okD at h
  rw [Bool.and_eq_true, decide_eq_true_eq] at h
  exact h
theorem op_dataP {op : CmpOp} {f : D → D → Option Bool} (hf : ∀ x y b, f x y = some b → okD x = true ∧ okD y = true)
    (rule : ∀ {s : Shared} {a c : Value} {da dc : D} {as cs : List Addr} {b : Bool} {Q : Value → Shared → Prop}, Reads s.heap a da as → Reads s.heap c dc cs → f da dc = some b → X.A.units + min da.depth dc.depth < cLine → Q (.bool b) s → wpAny (model X.prog X.w) X.A (compareOp op a c) Q X.xe s)
    (hu : X.A.units + 64 < cLine) : OpR X (compareOp op) (rOp X.K (bV f)) := by
  intro pins s σ H v u vv uu Q I rx ry ⟨B, x, y, w, tr, hx, hy, e, q⟩
  obtain ⟨k, e1, e⟩ := Option.map_eq_some_iff.mp e
  cases e
  obtain ⟨o1, o2⟩ := hf _ _ _ e1
  obtain ⟨as, r1⟩ := Dp.reads I x v vv (hx.dp (okD_of o1).1) rx
  obtain ⟨bs, r2⟩ := Dp.reads I y u uu (hy.dp (okD_of o2).1) ry
  have h1 := (okD_of o1).2
  exact rule r1 r2 e1 (by omega) ⟨.bl k, H, I, rfl, q _ _ grow0 (.bl _)⟩
theorem nn {x : D} (h : isNone x = false) : x ≠ .none := fun e => by subst e; cases h
theorem cond4 {a b c d : Bool} {x y : Bool} (h : (if (a && b && c && d) = true then some x else none) = some y) : a = true ∧ b = true ∧ c = true ∧ d = true ∧ x = y := by
  obtain ⟨h1, h2⟩ := dec2 h
  simp only [Bool.and_eq_true] at h1
  exact ⟨h1.1.1.1, h1.1.1.2, h1.1.2, h1.2, h2⟩
theorem notT {b : Bool} (h : (!b) = true) : b = false := by cases b <;> first | rfl | cases h
end
end Pi

end
section
set_option Elab.async false
set_option linter.all false
set_option maxRecDepth 100000
set_option maxHeartbeats 4000000
namespace Ps
open PySem PySem.Spec PyProof.Rows L2
abbrev It (α : Type) := Value × α
structure Holds {α : Type} (cap : Nat) (is : Heap → α → Value → Prop) (hs : α → Int) (w : World) (h : Heap) (a : Addr) (L : List (It α)) (es : Array (Int × Value)) (ep : Nat) (t : SetTable) : Prop where
  obj : ∃ o, h.get? a = some o ∧ o.ExactSet ∧ o.data = .set es ep t
  lay : es.toList = L.map fun p => (hs p.2, p.1)
  once : (L.map (·.2)).Nodup
  mem : ∀ p ∈ L, is h p.2 p.1
  fit : t.fits es.size = true
  up : Ris t.place.toList
  led : w.params.followText "set-order" = true ∨ t.led = true
  few : L.length < cap
structure Fam (P : Program) (w : World) (α : Type) [DecidableEq α] where
  is : Heap → α → Value → Prop
  hs : α → Int
  cap : Nat
  cap0 : 0 < cap
  capOk : cap ≤ 1000
  ok : SetTable → List Int → Prop
  grow : ∀ {h h' : Heap} {k : α} {v : Value}, is h k v → (∀ c o, h.get? c = some o → h'.get? c = some o) → is h' k v
  one : ∀ {h : Heap} {k k' : α} {v : Value}, is h k v → is h k' v → k = k'
  ok0 : ∀ led : Bool, ok (.fresh 0 0 led) []
  hash : ∀ {A : Around} {E : Value → Shared → Prop} {s : Shared} {k : α} {v : Value} {Q : Int → Shared → Prop}, A.units < cLine → is s.heap k v → (∀ tk, s.toks ≤ tk → Q (hs k) { s with toks := tk }) → wpAny (model P w) A (pyHash v) Q E s
  add : ∀ {A : Around} {E : Value → Shared → Prop} {s : Shared} {a : Addr} {L : List (It α)} {es : Array (Int × Value)} {ep : Nat} {t : SetTable} {k : α} {v : Value} {Q : Bool → Shared → Prop}, A.units < cLine →
    Holds cap is hs w s.heap a L es ep t → ok t (L.map fun p => hs p.2) → is s.heap k v → L.length + 1 < cap →
    (∀ b h' L' es' ep' t', Heap.SameBut a s.heap h' → Holds cap is hs w h' a L' es' ep' t' → ok t' (L'.map fun p => hs p.2) → (k ∈ L.map (·.2) → L' = L) → (k ∉ L.map (·.2) → L'.Perm ((v, k) :: L)) → Q b { s with heap := h' }) →
    wpAny (model P w) A (setAddHashed a v (hs k)) Q E s
section
variable {P : Program} {w : World} {α : Type} [DecidableEq α]
def Fam.At (Φ : Fam P w α) (h : Heap) (a : Addr) (L : List (It α)) : Prop := ∃ es ep t, Holds Φ.cap Φ.is Φ.hs w h a L es ep t ∧ Φ.ok t (L.map fun p => Φ.hs p.2)
theorem Fam.At.grow {Φ : Fam P w α} {h h' : Heap} {a : Addr} {L : List (It α)} (x : Φ.At h a L) (ha : ∀ o, h.get? a = some o → h'.get? a = some o) (hm : ∀ p ∈ L, Φ.is h' p.2 p.1) : Φ.At h' a L := by
  obtain ⟨es, ep, t, r, k⟩ := x
  obtain ⟨o, e, z⟩ := r.obj
  exact ⟨es, ep, t, ⟨⟨o, ha o e, z⟩, r.lay, r.once, hm, r.fit, r.up, r.led, r.few⟩, k⟩
abbrev bare (w : World) : Obj := { cls := .type "set", dict := none, data := .set #[] 0 (.fresh 0 0 (!w.params.followText "set-order")) }
theorem Fam.new (Φ : Fam P w α) {h : Heap} {a : Addr} (e : h.get? a = some (bare w)) : Φ.At h a [] := by
  refine ⟨#[], 0, _, ⟨⟨_, e, ⟨rfl, rfl, rfl⟩, rfl⟩, rfl, .nil, fun p z => (by cases z), rfl, .nil, ?_, Φ.cap0⟩, Φ.ok0 _⟩
  show _ ∨ (!w.params.followText "set-order") = true
  cases w.params.followText "set-order" <;> simp
structure Part (xs : List (It α)) (L : List (It α)) : Prop where
  inn : ∀ p ∈ L, p ∈ xs
  all : ∀ p ∈ xs, p.2 ∈ L.map (·.2)
theorem Part.old {xs L : List (It α)} {x : It α} (g : Part xs L) (h : x.2 ∈ L.map (·.2)) : Part (xs ++ [x]) L :=
  ⟨fun p z => List.mem_append_left _ (g.inn p z), fun p z => (List.mem_append.mp z).elim (g.all p) fun z => by rw [List.mem_singleton.mp z]; exact h⟩
theorem Part.new {xs L L' : List (It α)} {x : It α} (g : Part xs L) (pm : L'.Perm (x :: L)) : Part (xs ++ [x]) L' := by
  have pk : (L'.map (·.2)).Perm (x.2 :: L.map (·.2)) := pm.map (·.2)
  refine ⟨fun p z => ?_, fun p z => pk.mem_iff.mpr ?_⟩
  · rcases List.mem_cons.mp (pm.mem_iff.mp z) with z | z
    · rw [z]; simp
    · exact List.mem_append_left _ (g.inn p z)
  · rcases List.mem_append.mp z with z | z
    · exact List.mem_cons_of_mem _ (g.all p z)
    · rw [List.mem_singleton.mp z]; exact List.mem_cons_self
theorem Fam.turns (Φ : Fam P w α) {A : Around} {I S : Addr} {fp wr : List Addr} {G : Array GenState → Array GenState → Prop} {n : Nat} {Pv : Nat → Value → Prop} {St : Nat → Shared → Prop} {R : Result → Shared → Prop}
    (W : WalksS P w A.in1 I fp wr G n Pv St) (nS : S ∉ fp) (xs : List (It α)) (hn : n = xs.length) (hfew : xs.length < Φ.cap) (hv : ∀ i v, Pv i v → ∃ k, xs[i]? = some (v, k))
    (h0 : Heap) (hx : ∀ p ∈ xs, Φ.is h0 p.2 p.1) (z0 : h0.get? S = none) (zw : ∀ b ∈ wr, h0.get? b = none) (hu : A.in1.units < cLine) :
    ∀ (m i : Nat) (s : Shared) (L : List (It α)), i + m = n → St i s → (∀ b o, h0.get? b = some o → s.heap.get? b = some o) → Φ.At s.heap S L → Part (xs.take i) L → L.length ≤ i →
      (∀ s' L', Moved (S :: wr) G s s' → Φ.At s'.heap S L' → Part xs L' → (∀ b o, h0.get? b = some o → s'.heap.get? b = some o) → R (.ok (.ret .none)) s') →
      codeAny (model P w) A (.builtin "set.update.loop" ⟨[.ref S, .ref I], []⟩) R s := by
  have Sw : S ∉ wr := fun z => nS (W.sub _ z)
  have wide : ∀ {s s' : Shared}, Moved wr G s s' → Moved (S :: wr) G s s' := fun q => q.mono fun b hb => List.mem_cons_of_mem _ hb
  have still : ∀ {s s' : Shared}, Moved wr G s s' → (∀ b o, h0.get? b = some o → s.heap.get? b = some o) → ∀ b o, h0.get? b = some o → s'.heap.get? b = some o := fun q k b o e =>
    q.heap b o (fun hb => by rw [zw b hb] at e; cases e) (k b o e)
  have later : ∀ {s s' : Shared} {L : List (It α)} {i : Nat}, Moved wr G s s' → (∀ b o, h0.get? b = some o → s.heap.get? b = some o) → Φ.At s.heap S L → Part (xs.take i) L → Φ.At s'.heap S L := fun {s s' L i} q k x g =>
    x.grow (fun o e => q.heap S o Sw e) fun p hp => Φ.grow (hx p (List.mem_of_mem_take (g.inn p hp))) (still q k)
  intro m
  induction m with
  | zero =>
    intro i s L e st k x g _ hR
    have hi : i = n := by omega
    subst hi
    refine codeAny_builtin F.entry_set_update_loop ?_
    rw [Around.under_plainId F.plain_set_update_loop _]
    show wpAny _ A.in1 (pyNext (.ref I) >>= _) _ _ s
    refine wpAny_bind (W.done s _ _ st fun s' q => ?_)
    rw [hn, List.take_length] at g
    exact wpAny_pure (hR s' L (wide q) (later (i := i) q k x (by rw [hn, List.take_length]; exact g)) g (still q k))
  | succ m ih =>
    intro i s L e st k x g len hR
    have hi : i < n := by omega
    refine codeAny_builtin F.entry_set_update_loop ?_
    rw [Around.under_plainId F.plain_set_update_loop _]
    show wpAny _ A.in1 (pyNext (.ref I) >>= _) _ _ s
    refine wpAny_bind (W.item i s _ _ hi st fun v s' hP st' q => ?_)
    obtain ⟨key, hk⟩ := hv i v hP
    have k' := still q k
    have x' := later q k x g
    have vx : Φ.is s'.heap key v := Φ.grow (hx _ (List.mem_of_getElem? hk)) k'
    show wpAny _ A.in1 (holding [v] (setAdd S v) >>= _) _ _ s'
    refine wpAny_bind (wpAny_holding ?_)
    unfold setAdd
    refine wpAny_holding (wpAny_bind (Φ.hash hu vx fun tk htk => ?_))
    obtain ⟨es, ep, t, r, okt⟩ := x'
    refine Φ.add (s := { s' with toks := tk }) hu r okt vx (by omega) fun b h' L' es' ep' t' sb r' okt' c1 c2 => ?_
    have tk1 : xs.take (i + 1) = xs.take i ++ [(v, key)] := by rw [List.take_succ, hk]; rfl
    have g' : Part (xs.take (i + 1)) L' ∧ L'.length ≤ i + 1 := by
      rw [tk1]
      by_cases c : key ∈ L.map (·.2)
      · rw [c1 c]; exact ⟨g.old c, by omega⟩
      · exact ⟨g.new (c2 c), by rw [(c2 c).length_eq, List.length_cons]; omega⟩
    have k2 : ∀ c o, h0.get? c = some o → h'.get? c = some o := fun c o e => (sb.2 c fun z => by rw [z, z0] at e; cases e).trans (k' c o e)
    refine wpAny_pure ⟨plainId_quiet F.plain_set_update_loop _, ih (i + 1) _ L' (by omega) (W.frame _ s' _ _ st' htk fun c hc o e => (sb.2 c fun z => nS (z ▸ hc)).trans e) k2 ⟨es', ep', t', r', okt'⟩ g'.1 g'.2 fun s2 L2 q2 x2 g2 k3 => ?_⟩
    refine hR s2 L2 (Moved.trans W.gtrans ((wide q).then_heap htk fun c o hc e => ?_) q2) x2 g2 k3
    exact (sb.2 c fun z => hc (z ▸ List.mem_cons_self)).trans e
end
end Ps

end
section
set_option Elab.async false
set_option linter.all false
set_option maxRecDepth 100000
set_option maxHeartbeats 4000000
namespace Ps
open PySem PySem.Spec PyProof.Rows L2
section
variable {P : Program} {w : World} {α : Type} [DecidableEq α] {A : Around} {E : Value → Shared → Prop} {s : Shared}
theorem free_of (h : Heap) {b : Addr} (e : h.objs.size ≤ b) : h.get? b = none := by
  cases q : h.get? b with
  | none => rfl
  | some o => exact absurd (Heap.lt_size q) (Nat.not_lt.mpr e)
theorem Fam.callSet (Φ : Fam P w α) {l : Addr} {items : Array Value} (xs : List (It α)) {Q : Value → Shared → Prop} (hh : A.handled = none) (hl : s.heap.IsList l items) (hit : items.toList = xs.map (·.1))
    (hx : ∀ p ∈ xs, Φ.is s.heap p.2 p.1) (hfew : xs.length < Φ.cap) (hu : A.units + 3 < cLine)
    (h : ∀ (h' : Heap) (tk : Nat) L, Φ.At h' s.heap.objs.size L → Part xs L → (∀ b o, s.heap.get? b = some o → h'.get? b = some o) → Q (.ref s.heap.objs.size) { s with heap := h', toks := tk }) :
    wpAny (model P w) A (call (.type "set") [.ref l]) Q E s := by
  have sz : items.size = xs.length := by rw [← Array.length_toList, hit, List.length_map]
  obtain ⟨c, tl, hmro⟩ := F.called_set.mro
  have hmade := F.called_set.made
  have hsub := F.called_set.sub
  have h1 := F.called_set.notType
  have h2 := F.called_set.canCreate
  have hct := F.typeCall_set_1 (.ref l)
  refine wpAny_call (codeAny_of_tree ?_)
  show wpAny _ _ (callAny (.type "set") _) _ _ _
  refine wpAny_pure ⟨Code.quiet_builtin _ (by decide +kernel), codeAny_builtin F.entry_type_call ?_⟩
  rw [Around.under_plain (weight_type_call_type "set" [.ref l] []) rfl]
  repeat (any_goals (first | assumption | wp_step))
  refine codeAny_mono (code_set_led1 (.ref l) (E := E) (Q₁ := fun v s1 => v = .ref s.heap.objs.size ∧ s1 = { s with heap := s.heap.push (bare w) }) ⟨rfl, rfl⟩) fun r s1 hr => ?_
  cases r with
  | error e => exact hr
  | ok fl =>
    cases fl with
    | ret v =>
      obtain ⟨rfl, rfl⟩ := hr
      have eS : (s.heap.push (bare w)).get? s.heap.objs.size = some (bare w) := Heap.get?_push_size _ rfl
      have hT : Shared.TypeIs { s with heap := s.heap.push (bare w) } (.ref s.heap.objs.size) "set" := ⟨_, eS, rfl⟩
      have hli := F.called_set.init.lookup
      have hbi := F.called_set.init.bind (.ref s.heap.objs.size)
      repeat (any_goals (first | assumption | wp_step))
      refine codeAny_mono (codeAny_call_builtin (R := wants (fun r s2 => r = .none ∧ ∃ h' tk L, s2 = { s with heap := h', toks := tk } ∧ Φ.At h' s.heap.objs.size L ∧ Part xs L ∧ ∀ b o, s.heap.get? b = some o → h'.get? b = some o) E)
        F.called_set.init.plain F.entry_set_init (check_set_init_1 hT ?_)) fun r2 s2 hr2 => ?_
      · obtain ⟨ol, eol, cl, nl, dl⟩ := hl
        obtain ⟨oc, od, oda, os⟩ := ol
        simp only at cl dl
        subst cl; subst dl
        have eol' : (s.heap.push (bare w)).get? l = some { cls := .type "list", dict := od, data := .seq items nl, slots := os } := Heap.get?_push_of_some _ eol
        have isl : (s.heap.push (bare w)).IsList l items := ⟨_, eol', rfl, nl, rfl⟩
        have q1 := F.sub_list_set
        have q2 := F.sub_list_frozenset
        have q3 : (Value.type "list" == Value.type "dict") = false := by decide
        unfold Builtin.«set.__init__» noKeywords Builtin.Frozenset.updateFrom
        generalize gPI : pyIter = PI
        wp_walk
        subst gPI
        refine wpAny_pyIter_list isl (wpAny_bind (wpAny_runValue ?_))
        have lS : l < s.heap.objs.size := Heap.lt_size eol
        have size1 : (s.heap.push (bare w)).objs.size = s.heap.objs.size + 1 := Heap.size_push ..
        have hh3 : A.in1.in1.in1.handled = none := by simp [hh]
        have lI : l ≠ (s.heap.push (bare w)).objs.size := by rw [size1]; exact Nat.ne_of_lt (Nat.lt_succ_of_lt lS)
        have nS : s.heap.objs.size ∉ [(s.heap.push (bare w)).objs.size, l] := by
          rw [size1]
          simp only [List.mem_cons, List.mem_singleton, List.not_mem_nil, or_false, not_or]
          exact ⟨Nat.ne_of_lt (Nat.lt_succ_self _), Nat.ne_of_gt lS⟩
        have val : ∀ (i : Nat) (v : Value), items[i]? = some v → ∃ k, xs[i]? = some (v, k) := fun i v hv => by
          rw [← Array.getElem?_toList, hit, List.getElem?_map] at hv
          obtain ⟨p, e1, e2⟩ := Option.map_eq_some_iff.mp hv
          exact ⟨p.2, by rw [e1, ← e2]⟩
        refine Φ.turns ((Walks.list hh3 _ l lI items).toS) nS xs sz hfew val s.heap hx (free_of _ (Nat.le_refl _)) (fun b hb => free_of _ (by rw [List.mem_singleton.mp hb, size1]; omega)) hu
          items.size 0 _ [] (Nat.zero_add _) ⟨⟨_, Heap.get?_push_size _ rfl, rfl, rfl⟩, isl.push _⟩ (fun b o e => Heap.get?_push_of_some _ (Heap.get?_push_of_some _ e)) (Φ.new (Heap.get?_push_of_some _ eS)) ⟨fun p z => (by cases z), fun p z => (by cases z)⟩ (Nat.zero_le _) ?_
        intro s' L hm x g k
        obtain ⟨h', g', d', tk', os'⟩ := s'
        have eg : g' = s.gens := hm.gens
        have ed : d' = s.drawn := hm.drawn
        have eo : os' = s.os := hm.os
        subst eg; subst ed; subst eo
        show wpAny _ _ _ _ _ _
        refine wpAny_pure ?_
        show wpAny _ _ (ret Value.none) _ _ _
        exact wpAny_pure ⟨rfl, h', tk', L, rfl, x, g, k⟩
      · cases r2 with
        | error e => exact hr2
        | ok f2 =>
          cases f2 with
          | ret r =>
            obtain ⟨rfl, h', tk, L, rfl, x, g, k⟩ := hr2
            repeat (any_goals (first | assumption | wp_step))
            exact h _ _ _ x g k
          | _ => exact hr2.elim
    | _ => exact hr.elim
theorem Fam.sortSet (Φ : Fam P w α) {a : Addr} {L : List (It α)} {Q : Value → Shared → Prop} (x : Φ.At s.heap a L) (hh : A.handled = none) (enc : α → PyData)
    (rd : ∀ (h : Heap), (∀ b o, s.heap.get? b = some o → h.get? b = some o) → ∀ p ∈ L, ∃ as, Reads h p.1 (enc p.2) as ∧ ∀ c ∈ as, c < s.heap.objs.size)
    (hal : W.AllAlike (L.map fun p => enc p.2)) (hk : W.Sortable (L.map fun p => enc p.2)) (hu : ∀ p ∈ L, A.units + 4 + (enc p.2).depth < cLine)
    (hQ : ∀ s' p (out : Array Value) (c : Nat) (L' : List (It α)), (∀ b o, s.heap.get? b = some o → s'.heap.get? b = some o) → s'.gens = s.gens → s'.os = s.os → s.heap.objs.size ≤ p →
      s'.heap.get? p = some (seqObj "list" out c) → out.toList = L'.map (·.1) → L'.Perm L → L'.Pairwise (fun q r => W.dataLe false enc q.2 r.2 = true) → Q (.ref p) s') :
    wpAny (model P w) A (call (.builtin "sorted") [.ref a]) Q E s := by
  obtain ⟨es, ep, t, r, _⟩ := x
  obtain ⟨o, ho, hex, hd⟩ := r.obj
  have hes : es.size = L.length := by rw [← Array.length_toList, r.lay, List.length_map]
  have few := r.few
  have cpk := Φ.capOk
  refine Calls.call_function_entry kind_sorted plain_sorted entry_sorted (args_sorted1 _) ?_
  unfold Builtin.«sorted»
  refine wpAny_bind (m := checkCount "sorted" 1 1 _) (wpAny_pure ?_)
  refine wpAny_bind (collect_set (A := A.in1) hh ⟨o, ho, hex.1, hd⟩ r.fit (by unfold scanBound; omega) r.up r.led fun s1 vs k1 hz g1 o1 pm => ?_)
  rw [r.lay, List.map_map] at pm
  have pm : vs.Perm (L.map (·.1)) := pm
  -- the members in the order in which they were gathered
  obtain ⟨L1, e1, p1⟩ : ∃ L1 : List (It α), vs = L1.map (·.1) ∧ L1.Perm L := by
    have key : ∀ (vs : List Value) (L : List (It α)), vs.Perm (L.map (·.1)) → ∃ L1 : List (It α), vs = L1.map (·.1) ∧ L1.Perm L := by
      intro vs
      induction vs with
      | nil =>
        intro L pm
        have : L = [] := List.map_eq_nil_iff.mp (List.Perm.eq_nil pm.symm)
        exact ⟨[], rfl, by rw [this]⟩
      | cons v vs ih =>
        intro L pm
        obtain ⟨p, hp, e⟩ := List.mem_map.mp (pm.mem_iff.mp List.mem_cons_self)
        obtain ⟨a1, a2, rfl⟩ := List.append_of_mem hp
        have pm2 : vs.Perm ((a1 ++ a2).map (·.1)) := by
          have q : (v :: vs).Perm (v :: (a1 ++ a2).map (·.1)) := pm.trans (by
            rw [← e, List.map_append, List.map_cons, List.map_append]
            exact List.perm_middle)
          exact q.cons_inv
        obtain ⟨L1, e2, p2⟩ := ih _ pm2
        exact ⟨p :: L1, by rw [List.map_cons, e, e2], (p2.cons p).trans List.perm_middle.symm⟩
    exact key vs L pm
  have hvl : vs.length = L.length := by rw [e1, List.length_map, p1.length_eq]
  refine wpAny_bind (wpAny_newList ?_ (by rw [sizeLine_eq]; omega))
  have hoL : (s1.heap.push (seqObj "list" vs.toArray 0)).get? s1.heap.objs.size = some (seqObj "list" vs.toArray 0) := Heap.get?_push_size _ rfl
  have each : ∀ (R : Value → It α → Prop) (M : List (It α)), (∀ p ∈ M, R p.1 p) → W.EachIs R (M.map (·.1)) M := by
    intro R M
    induction M with
    | nil => exact fun _ => .nil
    | cons p M ih => exact fun hM => .cons (hM p List.mem_cons_self) (ih fun q hq => hM q (List.mem_cons_of_mem _ hq))
  have eq1 : (L1.map fun p => enc p.2).Perm (L.map fun p => enc p.2) := p1.map _
  refine wpAny_bind (wpAny_holding (W.list_sort_data (s := { s1 with heap := s1.heap.push (seqObj "list" vs.toArray 0) }) (enc := fun p : It α => enc p.2) (bs := L1) (R := fun v p => v = p.1) hoL (by rw [e1]; exact each _ _ fun _ _ => rfl)
    (by
      rw [e1]
      refine each _ _ fun p hp => ?_
      obtain ⟨as, ra, na⟩ := rd (s1.heap.push (seqObj "list" vs.toArray 0)) (fun b o e => Heap.get?_push_of_some _ (k1 b o e)) p (p1.mem_iff.mp hp)
      rw [← e1]
      exact ⟨as, ra, fun z => Nat.lt_irrefl _ (Nat.lt_of_lt_of_le (na _ z) hz)⟩)
    (fun d hd d' hd' => hal d (eq1.mem_iff.mp hd) d' (eq1.mem_iff.mp hd')) ?_ (by rw [p1.length_eq, sizeLine_eq]; omega) (fun p hp => ?_) fun out l1 l2 => ?_))
  · rcases hk with hk | hk
    · exact .inl fun d hd => hk d (eq1.mem_iff.mp hd)
    · exact .inr fun d hd => hk d (eq1.mem_iff.mp hd)
  · have := hu p (p1.mem_iff.mp hp)
    show A.units + 1 + 1 + (enc p.2).depth < cLine
    omega
  · obtain ⟨c, hc⟩ := sortedHeap_at (vs := vs) (out := out.toArray) hoL
    have out_eq : ∀ {us : List Value} {M : List (It α)}, W.EachIs (fun v p => v = p.1) us M → us = M.map (·.1) := by
      intro us M hM
      induction hM with
      | nil => rfl
      | cons h _ ih => rw [List.map_cons, h, ih]
    refine wpAny_pure ⟨_, rfl, hQ _ s1.heap.objs.size out.toArray c _ (fun b u e => ?_) g1 o1 hz hc (by simpa using out_eq l2) ((List.mergeSort_perm _ _).trans p1) ?_⟩
    · have q := k1 b u e
      have hlt := Heap.lt_size q
      show (sortedHeap (s1.heap.push (seqObj "list" vs.toArray 0)) s1.heap.objs.size vs out.toArray).get? b = some u
      rw [sortedHeap_old (Nat.ne_of_lt hlt) (by rw [size_push']; exact Nat.lt_succ_of_lt hlt)]
      exact Heap.get?_push_of_some _ q
    · have tot : W.TotalLe (W.dataLe false fun p : It α => enc p.2) := W.sortLe_total _ _ _
      exact W.sort_pairwise tot L1
end
end Ps

end
section
set_option Elab.async false
set_option linter.all false
set_option maxRecDepth 100000
set_option maxHeartbeats 4000000
namespace Ps
open PySem PySem.Spec PyProof.Rows L2
theorem permLift {α β : Type} (f : α → β) : ∀ (xs : List β) (L : List α), xs.Perm (L.map f) → ∃ M : List α, xs = M.map f ∧ M.Perm L
  | [], L, pm => ⟨[], rfl, by rw [List.map_eq_nil_iff.mp (List.Perm.eq_nil pm.symm)]⟩
  | x :: xs, L, pm => by
    obtain ⟨p, hp, e⟩ := List.mem_map.mp (pm.mem_iff.mp List.mem_cons_self)
    obtain ⟨a, b, rfl⟩ := List.append_of_mem hp
    have q : (x :: xs).Perm (x :: (a ++ b).map f) := pm.trans (by
      rw [← e, List.map_append, List.map_cons, List.map_append]
      exact List.perm_middle)
    obtain ⟨M, e2, p2⟩ := permLift f xs (a ++ b) q.cons_inv
    exact ⟨p :: M, by rw [List.map_cons, e, e2], (p2.cons p).trans List.perm_middle.symm⟩
section
variable {P : Program} {w : World} {A : Around} {E : Value → Shared → Prop} {s : Shared} {a : Addr} {es : Array (Int × Value)} {ep : Nat} {t : SetTable}
abbrev isK (_ : Heap) (k : Key) (v : Value) : Prop := keyIs k v = true
theorem keyScan {k : Key} {v : Value} (h : keyIs k v = true) : v.scannable = true := by
  rcases keyIs_shape h with ⟨i, t, rfl, rfl⟩ | ⟨x, t, rfl, rfl⟩ <;> rfl
theorem Holds.elems {L : List (It Key)} (r : Holds 1000 isK (keyH w) w s.heap a L es ep t) : ElemsOf (mixKind P w) es.toList := fun e he => by
  rw [r.lay] at he
  obtain ⟨p, hp, rfl⟩ := List.mem_map.mp he
  exact ⟨⟨p.2, r.mem p hp, rfl⟩, keyScan (r.mem p hp)⟩
theorem store_obj {o : Obj} {es' : Array (Int × Value)} {t' : SetTable} (ho : s.heap.get? a = some o) (hex : o.ExactSet) (hd : o.data = .set es ep t) :
    ∃ o', (s.heap.update a (Obj.putSet es' t')).get? a = some o' ∧ o'.ExactSet ∧ o'.data = .set es' (ep + 1) t' := ⟨_, store_at ho hd, ⟨hex.1, hex.2.1, hex.2.2⟩, rfl⟩
theorem key_tail {g : Bool → Sem Unit} (hg : ∀ (b : Bool) (s1 : Shared) (Q : Unit → Shared → Prop), Q () s1 → wpAny (model P w) A (g b) Q E s1)
    {o : Obj} (ho : s.heap.get? a = some o) (hex : o.ExactSet) (hd : o.data = .set es ep t) {es1 : Array (Int × Value)} {t2 : SetTable} {M : List (It Key)} (hl : es1.toList = M.map fun p => (keyH w p.2, p.1)) (nd : (M.map (·.2)).Nodup) (mm : ∀ p ∈ M, keyIs p.2 p.1 = true)
    (few : M.length < 1000) (fit : t2.fits es1.size = true) (up : Ris t2.place.toList) (led : w.params.followText "set-order" = true ∨ t2.led = true) {wd : Bool} {R : Option Bool → Shared → Prop}
    (hR : ∀ h' L' es' ep' t', Heap.SameBut a s.heap h' → Holds 1000 isK (keyH w) w h' a L' es' ep' t' → L'.Perm M → R (some true) { s with heap := h' }) :
    wpAny (model P w) A (do
        storeSet a es1 t2
        if (!wd && t2.tooFull) = true then do
            g (relayAll t2 es1 (SetTable.grown es1.size)).2.2
            storeSet a (relayAll t2 es1 (SetTable.grown es1.size)).1 (relayAll t2 es1 (SetTable.grown es1.size)).2.1
            pure (some true)
          else pure (some true)) R E s := by
  have hsz : es1.size = M.length := by rw [← Array.length_toList, hl, List.length_map]
  have hb : es1.size < scanBound := by unfold scanBound; omega
  refine wpAny_bind (wpAny_storeSet_of ho hd ?_ (fits_of_scanBound hb))
  obtain ⟨o1, ho1, hex1, hd1⟩ := store_obj (es' := es1) (t' := t2) ho hex hd
  have sb1 := Heap.SameBut.update s.heap a (Obj.putSet es1 t2)
  by_cases c : (!wd && t2.tooFull) = true
  · rw [if_pos c]
    have pm := relayAll_perm t2 es1 (SetTable.grown es1.size)
    have f3 := relayAll_fits t2 es1 (SetTable.grown es1.size)
    have r3 := relayAll_ris t2 es1 (SetTable.grown es1.size)
    have l3 := relayAll_led t2 es1 (SetTable.grown es1.size)
    generalize relayAll t2 es1 (SetTable.grown es1.size) = Z at pm f3 r3 l3 ⊢
    obtain ⟨es2, t3, gave⟩ := Z
    dsimp only at pm f3 r3 l3 ⊢
    rw [hl] at pm
    obtain ⟨M2, e2, p2⟩ := permLift _ _ _ pm
    have hsz2 : es2.size = M.length := by rw [← Array.length_toList, e2, List.length_map, p2.length_eq]
    refine wpAny_bind (hg _ _ _ ?_)
    refine wpAny_bind (wpAny_storeSet_of (s := { s with heap := s.heap.update a (Obj.putSet es1 t2) }) ho1 hd1 ?_ (fits_of_scanBound (by unfold scanBound; omega)))
    obtain ⟨o2, ho2, hex2, hd2⟩ := store_obj (s := { s with heap := s.heap.update a (Obj.putSet es1 t2) }) (es' := es2) (t' := t3) ho1 hex1 hd1
    refine wpAny_pure (hR _ M2 es2 _ t3 (sb1.trans (Heap.SameBut.update _ a _)) ⟨⟨o2, ho2, hex2, hd2⟩, e2, (p2.map (·.2)).nodup_iff.mpr nd, fun p hp => mm p (p2.mem_iff.mp hp), f3, r3, led.imp id fun z => by rw [l3]; exact z, by rw [p2.length_eq]; exact few⟩ p2)
  · rw [if_neg c]
    exact wpAny_pure (hR _ M es1 _ t2 sb1 ⟨⟨o1, ho1, hex1, hd1⟩, hl, nd, mm, fit, up, led, few⟩ (List.Perm.refl _))
theorem key_add {L : List (It Key)} {k : Key} {v : Value} {Q : Bool → Shared → Prop} (r : Holds 1000 isK (keyH w) w s.heap a L es ep t) (hv : keyIs k v = true) (few : L.length + 1 < 1000)
    (hQ : ∀ b h' L' es' ep' t', Heap.SameBut a s.heap h' → Holds 1000 isK (keyH w) w h' a L' es' ep' t' → (k ∈ L.map (·.2) → L' = L) → (k ∉ L.map (·.2) → L'.Perm ((v, k) :: L)) → Q b { s with heap := h' }) :
    wpAny (model P w) A (setAddHashed a v (keyH w k)) Q E s := by
  obtain ⟨o, ho, hex, hd⟩ := r.obj
  have hel : ElemsOf (mixKind P w) es.toList := r.elems
  have hsz : es.size = L.length := by rw [← Array.length_toList, r.lay, List.length_map]
  have hb : es.size < scanBound := by unfold scanBound; omega
  have hsc := keyScan hv
  have hkey : (mixKind P w).is k v = true := hv
  unfold setAddHashed setAddHashedIn
  refine wpAny_holding (wpAny_bind (wpAny_setState_of ho hd r.fit ?_))
  dsimp only
  rw [byScan_of hsc hb hel]
  simp only [↓reduceIte]
  unfold setAddByScan
  refine wpAny_bind (wpAny_bind (wpAny_rule (wpAny_bind (wpAny_setScan_of hkey ho hd r.fit hel ?_))))
  cases hfi : List.findIdx? (fun e => (mixKind P w).is k e.2) es.toList with
  | some j =>
    dsimp only
    obtain ⟨hj, pj, _⟩ := List.findIdx?_eq_some_iff_getElem.mp hfi
    have hin : k ∈ L.map (·.2) := by
      have hm : es.toList[j] ∈ L.map fun p => (keyH w p.2, p.1) := by rw [← r.lay]; exact List.getElem_mem hj
      obtain ⟨p, hp, e⟩ := List.mem_map.mp hm
      have : (mixKind P w).is k p.1 = true := by rw [← e] at pj; exact pj
      exact List.mem_map.mpr ⟨p, hp, ((mixKind P w).inj p.1 k p.2 this (r.mem p hp)).symm⟩
    exact wpAny_pure (wpAny_pure (hQ _ s.heap L es ep t (Heap.SameBut.refl a s.heap) r (fun _ => rfl) fun z => absurd hin z))
  | none =>
    dsimp only
    have hout : k ∉ L.map (·.2) := fun z => by
      obtain ⟨p, hp, e⟩ := List.mem_map.mp z
      have hm : (keyH w p.2, p.1) ∈ es.toList := by rw [r.lay]; exact List.mem_map.mpr ⟨p, hp, rfl⟩
      have c := List.findIdx?_eq_none_iff.mp hfi _ hm
      have : (mixKind P w).is k p.1 = true := by rw [← e]; exact r.mem p hp
      rw [this] at c; cases c
    have hgw : ∀ (b : Bool) (s1 : Shared) (Q : Unit → Shared → Prop), Q () s1 → wpAny (model P w) A (match b with | true => rule "set.scan.the-table-gave-way" | false => pure ()) Q E s1 := fun b s1 Q q => by
      cases b
      · exact wpAny_pure q
      · exact wpAny_rule q
    have pm := layNew_perm t es (keyH w k) v
    have f1 := layNew_fits t es (keyH w k) v
    have r1 := layNew_ris t es (keyH w k) v r.up
    have l1 := layNew_led t es (keyH w k) v
    generalize layNew t es (keyH w k) v = Z at pm f1 r1 l1 ⊢
    obtain ⟨es1, t1, wd, gave⟩ := Z
    dsimp only at pm f1 r1 l1 ⊢
    rw [Array.toList_push, r.lay] at pm
    have pc : es1.toList.Perm (((v, k) :: L).map fun p => (keyH w p.2, p.1)) := pm.trans (List.perm_append_singleton _ _)
    obtain ⟨M, e1, p1⟩ := permLift _ _ _ pc
    have nd : (M.map (·.2)).Nodup := (p1.map (·.2)).nodup_iff.mpr (List.nodup_cons.mpr ⟨hout, r.once⟩)
    have mm : ∀ p ∈ M, keyIs p.2 p.1 = true := fun p hp => by
      rcases List.mem_cons.mp (p1.mem_iff.mp hp) with z | z
      · rw [z]; exact hv
      · exact r.mem p z
    have fw : M.length < 1000 := by rw [p1.length_eq]; exact few
    have led : w.params.followText "set-order" = true ∨ t1.led = true := r.led.imp id fun z => by rw [l1]; exact z
    have fin : ∀ h' L' es' ep' t', Heap.SameBut a s.heap h' → Holds 1000 isK (keyH w) w h' a L' es' ep' t' → L'.Perm M → Q true { s with heap := h' } := fun h' L' es' ep' t' sb r' p' => hQ true h' L' es' ep' t' sb r' (fun z => absurd z hout) fun _ => p'.trans p1
    refine wpAny_bind (hgw _ _ _ ?_)
    by_cases cp : t1.plain = true
    · rw [if_pos cp]
      refine wpAny_bind ?_
      rw [hashByValue_scannable 8 hsc]
      refine wpAny_pure ?_
      refine key_tail hgw ho hex hd e1 nd mm fw ?_ ?_ ?_ ?_
      · by_cases q : plainKind v = true
        · rw [if_pos q]; exact f1
        · rw [if_neg q]; exact SetTable.fits_plain_off f1
      · by_cases q : plainKind v = true
        · rw [if_pos q]; exact r1
        · rw [if_neg q]; exact r1
      · by_cases q : plainKind v = true
        · rw [if_pos q]; exact led
        · rw [if_neg q]; exact led
      · intro h' L' es' ep' t' sb r' p'; dsimp only; exact wpAny_pure (fin h' L' es' ep' t' sb r' p')
    · rw [if_neg cp]
      refine wpAny_bind (wpAny_pure ?_)
      simp only [↓reduceIte]
      refine key_tail hgw ho hex hd e1 nd mm fw f1 r1 led ?_
      intro h' L' es' ep' t' sb r' p'; dsimp only; exact wpAny_pure (fin h' L' es' ep' t' sb r' p')
def famK (P : Program) (w : World) : Fam P w Key where
  is := isK
  hs := keyH w
  cap := 1000
  cap0 := by decide
  capOk := by decide
  ok := fun _ _ => True
  grow := fun h _ => h
  one := fun {h k k' v} a b => (mixKind P w).inj v k k' a b
  ok0 := fun _ => trivial
  hash := fun {A E s k v Q} hu hv h => (mixKind P w).pyHash hv (h _ (Nat.le_succ _))
  add := fun {A E s a L es ep t k v Q} hu r _ hv few hQ => key_add r hv few fun b h' L' es' ep' t' sb r' c1 c2 => hQ b h' L' es' ep' t' sb r' trivial c1 c2
end
end Ps

end
section
set_option Elab.async false
set_option linter.all false
set_option maxRecDepth 100000
set_option maxHeartbeats 4000000
namespace Ps
open PySem PySem.Spec PyProof.Rows L2
def WM (m : Nat) : Prop := m = 7 ∨ m = 31 ∨ m = 127 ∨ m = 511 ∨ m = 2047
theorem WM.odd {m : Nat} (h : WM m) : m % 2 = 1 := by unfold WM at h; omega
theorem WM.le {m : Nat} (h : WM m) : 7 ≤ m ∧ m ≤ 2047 := by unfold WM at h; omega
theorem WM.inj {m : Nat} (h : WM m) {x y : Nat} (hx : x ≤ m) (hy : y ≤ m) (e : (x * 5 + 1) % (m + 1) = (y * 5 + 1) % (m + 1)) : x = y := by
  rcases h with z | z | z | z | z <;> subst z <;> omega
def away (m : Nat) : Nat → Nat → Bool
  | 0, _ => true
  | n + 1, x => x != 0 && away m n ((x * 5 + 1) % (m + 1))
theorem lcgI_back (m : Nat) : ∀ (k x : Nat), lcgI m x (k + 1) = lcgI m ((x * 5 + 1) % (m + 1)) k
  | 0, _ => rfl
  | k + 1, x => by
    show (lcgI m x (k + 1) * 5 + 1) % (m + 1) = (lcgI m ((x * 5 + 1) % (m + 1)) k * 5 + 1) % (m + 1)
    rw [lcgI_back m k x]
theorem away_ok {m : Nat} : ∀ {n x : Nat}, away m n x = true → ∀ k, k < n → lcgI m x k ≠ 0
  | 0, _, _, k, hk => absurd hk (Nat.not_lt_zero k)
  | n + 1, x, h, k, hk => by
    have h : (x != 0 && away m n ((x * 5 + 1) % (m + 1))) = true := h
    rw [Bool.and_eq_true, bne_iff_ne] at h
    match k, hk with
    | 0, _ => exact h.1
    | k + 1, hk =>
      rw [lcgI_back]
      exact away_ok h.2 k (by omega)
theorem WM.away {m : Nat} (h : WM m) : away m m 1 = true := by
  rcases h with z | z | z | z | z <;> subst z <;> decide +kernel
theorem one_step {m : Nat} (h : WM m) : lcgN m 1 = 1 := by
  have := h.le
  show (0 * 5 + 1) % (m + 1) = 1
  exact Nat.mod_eq_of_lt (by omega)
theorem lcgN_le (m : Nat) : ∀ k, lcgN m k ≤ m
  | 0 => Nat.zero_le m
  | k + 1 => Nat.le_of_lt_succ (Nat.mod_lt _ (Nat.succ_pos m))
theorem WM.nz {m : Nat} (h : WM m) {k : Nat} (h0 : 0 < k) (hk : k ≤ m) : lcgN m k ≠ 0 := by
  have e := lcgN_add m 1 (k - 1)
  rw [one_step h, show 1 + (k - 1) = k by omega] at e
  rw [← e]
  exact away_ok h.away (k - 1) (by omega)
theorem WM.apart {m : Nat} (h : WM m) : ∀ {a b : Nat}, a < b → b ≤ m → lcgN m a ≠ lcgN m b
  | 0, b, hab, hb => fun e => h.nz hab hb e.symm
  | a + 1, 0, hab, _ => absurd hab (Nat.not_lt_zero _)
  | a + 1, b + 1, hab, hb => fun e => h.apart (a := a) (b := b) (by omega) (by omega) (h.inj (lcgN_le m a) (lcgN_le m b) e)
theorem WM.orbit {m : Nat} (h : WM m) : ((List.range (m + 1)).map (lcgN m)).Nodup := by
  refine List.pairwise_map.mpr ((List.pairwise_lt_range (n := m + 1)).imp_of_mem fun {a b} ha hb hab => ?_)
  exact h.apart hab (by have := List.mem_range.mp hb; omega)
theorem WM.all {m : Nat} (h : WM m) {j : Nat} (hj : j ≤ m) : ∃ b, b ≤ m ∧ lcgN m b = j := by
  by_cases c : j ∈ (List.range (m + 1)).map (lcgN m)
  · obtain ⟨b, hb, e⟩ := List.mem_map.mp c
    exact ⟨b, by have := List.mem_range.mp hb; omega, e⟩
  · exfalso
    have hin : j ∈ List.range (m + 1) := List.mem_range.mpr (by omega)
    have q := nat_nodup_len _ ((List.range (m + 1)).erase j) h.orbit fun x hx => by
      have hne : x ≠ j := fun z => c (z ▸ hx)
      obtain ⟨b, _, e⟩ := List.mem_map.mp hx
      exact (List.mem_erase_of_ne hne).2 (List.mem_range.mpr (by have := lcgN_le m b; omega))
    rw [List.length_map, List.length_range, List.length_erase_of_mem hin, List.length_range] at q
    omega
theorem WM.round {m : Nat} (h : WM m) : lcgN m (m + 1) = 0 := by
  obtain ⟨c, hc, e⟩ := h.all (lcgN_le m (m + 1))
  match c, hc, e with
  | 0, _, e => exact e.symm
  | c + 1, hc, e => exact absurd (h.inj (lcgN_le m c) (lcgN_le m m) e) (h.apart (by omega) (Nat.le_refl m))
theorem WM.again {m : Nat} (h : WM m) : ∀ k, lcgN m (m + 1 + k) = lcgN m k
  | 0 => h.round
  | k + 1 => congrArg (fun z => (z * 5 + 1) % (m + 1)) (h.again k)
theorem WM.reach {m : Nat} (h : WM m) {i j : Nat} (hi : i ≤ m) (hj : j ≤ m) : ∃ k, k ≤ m ∧ lcgI m i k = j := by
  obtain ⟨a, ha, rfl⟩ := h.all hi
  obtain ⟨b, hb, rfl⟩ := h.all hj
  by_cases c : a ≤ b
  · exact ⟨b - a, by omega, by rw [lcgN_add, show a + (b - a) = b by omega]⟩
  · exact ⟨m + 1 + b - a, by omega, by rw [lcgN_add, show a + (m + 1 + b - a) = m + 1 + b by omega, h.again]⟩
theorem WM.runs {m : Nat} (h : WM m) (x : Int) {j : Nat} (hj : j ≤ m) : ∃ n, n ≤ m + 12 ∧ runI m (SetTable.bits x) n = j := by
  obtain ⟨k, h1, h2⟩ := h.reach (runI_le m (SetTable.bits x) 12) hj
  exact ⟨12 + k, by omega, (runI_tail (bits_lt x) k).trans h2⟩
theorem way_in (m : Nat) (x : Int) (k : Nat) : way m x k ≤ m := by
  have hi : SetTable.bits x % (m + 1) ≤ m := by have := Nat.mod_lt (SetTable.bits x) (show 0 < m + 1 by omega); omega
  obtain ⟨r1, r2, _⟩ := runEnd_bd hi
  have q := nth_in (m := m) k (runAt m (SetTable.bits x % (m + 1)) (SetTable.bits x)) (show SetTable.bits x % (m + 1) + (SetTable.runEnd m (SetTable.bits x % (m + 1)) - SetTable.bits x % (m + 1)) ≤ m by omega)
  exact Nat.le_trans (Nat.le_add_right _ _) q
theorem WM.meets {m : Nat} (h : WM m) (x : Int) {j : Nat} (hj : j ≤ m) : ∃ k, k < 10 * SetTable.turns m ∧ way m x k = j := by
  obtain ⟨n, h1, h2⟩ := h.runs x hj
  obtain ⟨k, h3, h4⟩ := run_nth m (SetTable.bits x) n
  exact ⟨k, by unfold SetTable.turns; omega, (congrArg SetTable.Probe.j h4).trans h2⟩
structure TabW (t : SetTable) (hs : List Int) : Prop where
  ris : Ris t.place.toList
  dm : t.dummies = #[]
  sz : t.place.size = hs.length
  mok : WM t.mask
  bd : ∀ x ∈ t.place.toList, x ≤ t.mask
  reach : ∀ (i : Nat) (x : Int) (j : Nat), hs[i]? = some x → t.place.toList[i]? = some j → ∃ k, way t.mask x k = j ∧ ∀ c, c < k → way t.mask x c ∈ t.place.toList
theorem TabW.first {t : SetTable} {hs : List Int} (T : TabW t hs) (hl : hs.length ≤ t.mask) (x : Int) : ∃ K, K < 10 * SetTable.turns t.mask ∧ way t.mask x K ∉ t.place.toList ∧ ∀ c, c < K → way t.mask x c ∈ t.place.toList := by
  have few : t.place.toList.length < t.mask + 1 := by have := T.sz; rw [Array.length_toList]; omega
  obtain ⟨j, hj, out⟩ := st_missing _ _ few
  obtain ⟨k, hk, rfl⟩ := T.mok.meets x (show j ≤ t.mask by omega)
  obtain ⟨K, z1, z2, z3⟩ := st_least (p := fun c => way t.mask x c ∉ t.place.toList) k out
  exact ⟨K, by omega, z2, fun c hc => Classical.byContradiction (z3 c hc)⟩
theorem TabW.before {t : SetTable} {hs : List Int} (T : TabW t hs) {x : Int} {K i j : Nat} (out : way t.mask x K ∉ t.place.toList) (hi : hs[i]? = some x) (hj : t.place.toList[i]? = some j) : ∃ k, k < K ∧ way t.mask x k = j := by
  obtain ⟨k, rfl, all⟩ := T.reach i x j hi hj
  refine ⟨k, ?_, rfl⟩
  by_cases c : k < K
  · exact c
  · by_cases d : k = K
    · subst d; exact absurd (List.mem_of_getElem? hj) out
    · exact absurd (all K (by omega)) out
theorem TabW.put {t : SetTable} {hs : List Int} (T : TabW t hs) {x : Int} {K : Nat} (out : way t.mask x K ∉ t.place.toList) (all : ∀ c, c < K → way t.mask x c ∈ t.place.toList) :
    (t.put (way t.mask x K)).2 = SetTable.below t.place (way t.mask x K) ∧ SetTable.below t.place (way t.mask x K) ≤ hs.length ∧
    TabW (t.put (way t.mask x K)).1 (hs.take (SetTable.below t.place (way t.mask x K)) ++ x :: hs.drop (SetTable.below t.place (way t.mask x K))) ∧
    (t.put (way t.mask x K)).1.mask = t.mask ∧ (t.put (way t.mask x K)).1.led = t.led ∧ (t.put (way t.mask x K)).1.plain = t.plain ∧ (t.put (way t.mask x K)).1.moves = t.moves ∧ (t.put (way t.mask x K)).1.finger = t.finger ∧
    (t.put (way t.mask x K)).1.fill = hs.length + 1 := by
  have inn := way_in t.mask x K
  obtain ⟨j, hj⟩ : ∃ j, way t.mask x K = j := ⟨_, rfl⟩
  rw [hj] at out inn ⊢
  have sz := T.sz
  have c1 := (below_cut T.ris j).1
  have lp : SetTable.below t.place j ≤ t.place.toList.length := by rw [Array.length_toList]; exact c1
  have lh : SetTable.below t.place j ≤ hs.length := by omega
  have pp := put_place t j
  have grew : ∀ {y : Nat}, y ∈ t.place.toList → y ∈ (t.put j).1.place.toList := fun hy => by rw [pp]; exact mem_ins.2 (.inr hy)
  have size1 : (t.put j).1.place.size = hs.length + 1 := by rw [← Array.length_toList, pp, len_ins _ lp, Array.length_toList, sz]
  have new : t.place[SetTable.below t.place j]? ≠ some j := fun e => out (List.mem_of_getElem? (by rw [Array.getElem?_toList]; exact e))
  have tab : TabW (t.put j).1 (hs.take (SetTable.below t.place j) ++ x :: hs.drop (SetTable.below t.place j)) :=
    { ris := ris_insert T.ris new
      dm := put_dm T.dm j
      sz := by rw [len_ins _ lh]; exact size1
      mok := T.mok
      bd := fun y hy => by
        rw [pp] at hy
        exact (mem_ins.1 hy).elim (fun z => z ▸ inn) (T.bd y)
      reach := fun i y j' h1 h2 => by
        rw [tins_get hs lh] at h1
        rw [pp, tins_get _ lp] at h2
        have old : ∀ {i' : Nat}, hs[i']? = some y → t.place.toList[i']? = some j' → ∃ k, way t.mask y k = j' ∧ ∀ c, c < k → way t.mask y c ∈ (t.put j).1.place.toList := fun g1 g2 => by
          obtain ⟨k, e, z⟩ := T.reach _ y j' g1 g2
          exact ⟨k, e, fun c hc => grew (z c hc)⟩
        show ∃ k, way t.mask y k = j' ∧ ∀ c, c < k → way t.mask y c ∈ (t.put j).1.place.toList
        by_cases d : i = SetTable.below t.place j
        · rw [if_neg (by omega), if_pos d] at h1 h2
          cases h1
          cases h2
          exact ⟨K, hj, fun c hc => grew (all c hc)⟩
        · by_cases c : i < SetTable.below t.place j
          · rw [if_pos c] at h1 h2
            exact old h1 h2
          · rw [if_neg c, if_neg d] at h1 h2
            exact old h1 h2 }
  refine ⟨rfl, lh, tab, rfl, rfl, rfl, rfl, rfl, ?_⟩
  show (t.put j).1.place.size + (t.put j).1.dummies.size = _
  rw [size1, put_dm T.dm j]; rfl
theorem WM.free {m : Nat} (h : WM m) (owner : Array (Option Nat)) (x : Int) {j : Nat} (hj : j ≤ m) (hf : oAt owner j = none) :
    ∃ K, SetTable.layClean.free m owner (SetTable.turns m) (SetTable.bits x % (m + 1)) (SetTable.bits x) = some (way m x K) ∧ oAt owner (way m x K) = none ∧ ∀ c, c < K → oAt owner (way m x c) ≠ none := by
  obtain ⟨n, hn, hr⟩ := h.runs x hj
  have at0 : way m x (off m (SetTable.bits x % (m + 1)) (SetTable.bits x) n) = j := by
    have e := nth_off m n (SetTable.bits x % (m + 1)) (SetTable.bits x)
    rw [itL_run] at e
    exact (congrArg SetTable.Probe.j e).trans hr
  obtain ⟨K, k1, k2, k3⟩ := st_least (p := fun c => oAt owner (way m x c) = none) _ ((congrArg (oAt owner) at0).trans hf)
  refine ⟨K, free_spec m owner _ n _ _ K (by unfold SetTable.turns; omega) k1 (fun c hc => ?_) (Option.isNone_iff_eq_none.mpr k2), k2, k3⟩
  cases z : oAt owner (nth m (runAt m (SetTable.bits x % (m + 1)) (SetTable.bits x)) c).j with
  | none => exact absurd z (k3 c hc)
  | some _ => rfl
theorem WM.sit {m : Nat} (h : WM m) {done : List Int} {owner : Array (Option Nat)} (O : Own m done owner) (hl : done.length ≤ m) (x : Int) :
    ∃ j, SetTable.layClean.free m owner (SetTable.turns m) (SetTable.bits x % (m + 1)) (SetTable.bits x) = some j ∧ Own m (done ++ [x]) (owner.setIfInBounds j (some done.length)) := by
  obtain ⟨ps, pl, pin⟩ := O.ps
  obtain ⟨j0, g0, g1⟩ := st_missing ps (m + 1) (by omega)
  have empty0 : oAt owner j0 = none := Classical.byContradiction fun z => g1 (pin j0 (by omega) z)
  obtain ⟨K, f1, f2, f3⟩ := h.free owner x (show j0 ≤ m by omega) empty0
  have inn := way_in m x K
  obtain ⟨j, hj⟩ : ∃ j, way m x K = j := ⟨_, rfl⟩
  rw [hj] at f1 f2 inn
  have self := oAt_set_self (owner := owner) (some done.length) (show j < owner.size by have := O.sz; omega)
  have kept : ∀ {i : Nat}, i ≠ j → oAt (owner.setIfInBounds j (some done.length)) i = oAt owner i := fun hi => oAt_set_ne _ hi
  have still : ∀ {i : Nat}, oAt owner i ≠ none → oAt (owner.setIfInBounds j (some done.length)) i ≠ none := fun {i} hi => by
    by_cases c : i = j
    · subst c; exact absurd f2 hi
    · rw [kept c]; exact hi
  refine ⟨j, f1, ?_⟩
  exact
    { sz := (Array.size_setIfInBounds ..).trans O.sz
      at_ := fun i k hi e => by
        by_cases c : i = j
        · rw [c, self] at e
          cases e
          exact ⟨x, K, by rw [List.getElem?_append_right (Nat.le_refl _), Nat.sub_self]; rfl, hj.trans c.symm, fun c' hc' => still (f3 c' hc')⟩
        · rw [kept c] at e
          obtain ⟨y, K', a1, a2, a3⟩ := O.at_ i k hi e
          exact ⟨y, K', by rw [List.getElem?_append_left (List.getElem?_eq_some_iff.mp a1).1]; exact a1, a2, fun c' hc' => still (a3 c' hc')⟩
      all := fun k hk => by
        rw [List.length_append, List.length_singleton] at hk
        by_cases c : k = done.length
        · exact ⟨j, inn, by rw [c]; exact self⟩
        · obtain ⟨i, hi, e⟩ := O.all k (by omega)
          exact ⟨i, hi, by rw [kept fun z => by rw [z, f2] at e; cases e]; exact e⟩
      ps := ⟨j :: ps, by rw [List.length_cons, pl, List.length_append]; rfl, fun i hi e => by
        by_cases c : i = j
        · exact c ▸ List.mem_cons_self
        · rw [kept c] at e
          exact List.mem_cons_of_mem _ (pin i hi e)⟩ }
theorem WM.lays {m : Nat} (h : WM m) : ∀ (rest done : List Int) (owner : Array (Option Nat)), Own m done owner → done.length + rest.length ≤ m →
    ∃ o2, rest.foldl (stepF m) (some (owner, done.length)) = some (o2, (done ++ rest).length) ∧ Own m (done ++ rest) o2
  | [], done, owner, O, _ => ⟨owner, by rw [List.append_nil]; rfl, by rw [List.append_nil]; exact O⟩
  | x :: rest, done, owner, O, hl => by
    have hl : done.length + (rest.length + 1) ≤ m := hl
    obtain ⟨j, e, O1⟩ := h.sit O (by omega) x
    have l1 : (done ++ [x]).length = done.length + 1 := List.length_append
    obtain ⟨o2, f, O2⟩ := h.lays rest (done ++ [x]) _ O1 (by omega)
    rw [l1, List.append_assoc] at f
    rw [List.append_assoc] at O2
    exact ⟨o2, (congrArg (rest.foldl (stepF m)) (stepF_some e)).trans f, O2⟩
theorem WM.clean {m : Nat} (h : WM m) {hs : Array Int} (hn : hs.size ≤ m) : ∃ owner, SetTable.layClean m hs = some owner ∧ Own m hs.toList owner := by
  obtain ⟨owner, f, O⟩ := h.lays hs.toList [] _ (Own.init m) (by rw [Array.length_toList]; show 0 + hs.size ≤ m; omega)
  exact ⟨owner, (layClean_eq m hs).trans (congrArg (Option.map (·.1)) f), O⟩
theorem live_size {m : Nat} {hs : Array Int} {owner : Array (Option Nat)} (O : Own m hs.toList owner) (nd : ((liveOf m owner).map (·.1)).Nodup) : (liveOf m owner).length = hs.size := by
  obtain ⟨ps, p1, p2⟩ := O.ps
  have up := nat_nodup_len _ ps nd fun y hy => by
    obtain ⟨⟨i, k⟩, hq, rfl⟩ := List.mem_map.mp hy
    obtain ⟨b1, b2⟩ := (mem_live O.sz).1 hq
    exact p2 i b1 (by rw [b2]; exact fun z => nomatch z)
  have down := nat_nodup_len (List.range hs.size) ((liveOf m owner).map (·.2)) List.nodup_range fun k hk => by
    obtain ⟨i, b1, b2⟩ := O.all k (by rw [Array.length_toList]; exact List.mem_range.mp hk)
    exact List.mem_map.mpr ⟨(i, k), (mem_live O.sz).2 ⟨b1, b2⟩, rfl⟩
  have z : hs.toList.length = hs.size := Array.length_toList
  rw [List.length_map] at up down
  rw [List.length_range] at down
  omega
theorem relaidW (t : SetTable) {hs : Array Int} {wanted M : Nat} (hw : SetTable.sizeAbove wanted - 1 = M) (hM : WM M) (hn : hs.size ≤ M) :
    ∃ t' order, t.relaid hs wanted = some (t', order) ∧ order.toList.Perm (List.range hs.size) ∧ TabW t' (order.toList.map fun i => hs.getD i 0) ∧ t'.mask = M ∧ t'.led = t.led ∧ t'.plain = t.plain ∧ t'.dummies = #[] := by
  obtain ⟨owner, e, O⟩ := hM.clean hn
  have rs := ris_live (fun j => owner.getD j none) (List.range (M + 1)) (show Ris _ from List.pairwise_lt_range)
  have r1 : Ris ((liveOf M owner).map (·.1)) := rs.1
  have len := live_size O (List.Pairwise.imp (fun q => Nat.ne_of_lt q) r1)
  have pr : ((liveOf M owner).map (·.2)).Perm (List.range hs.size) := perm_range _ _ (by rw [List.length_map, len]) fun k hk => by
    obtain ⟨i, b1, b2⟩ := O.all k (by rw [Array.length_toList]; exact hk)
    exact List.mem_map.mpr ⟨(i, k), (mem_live O.sz).2 ⟨b1, b2⟩, rfl⟩
  refine ⟨tabOf t M owner, ((liveOf M owner).map (·.2)).toArray, by rw [relaid_eq, hw, e]; rfl, pr, ?_, rfl, rfl, rfl, rfl⟩
  exact
    { ris := r1
      dm := rfl
      sz := by
        show ((liveOf M owner).map (·.1)).toArray.size = (((liveOf M owner).map (·.2)).map fun i => hs.getD i 0).length
        simp
      mok := hM
      bd := fun y hy => by have := List.mem_range.mp (rs.2 y hy); show y ≤ M; omega
      reach := fun i x j h1 h2 => by
        have h1 : (((liveOf M owner).map (·.2)).map fun i => hs.getD i 0)[i]? = some x := h1
        have h2 : ((liveOf M owner).map (·.1))[i]? = some j := h2
        rw [List.getElem?_map] at h2
        rw [List.getElem?_map, List.getElem?_map] at h1
        obtain ⟨⟨i0, k⟩, hq, e0⟩ := Option.map_eq_some_iff.mp h2
        rw [hq] at h1
        have e1 : hs.getD k 0 = x := Option.some.inj h1
        have e0 : i0 = j := e0
        subst e0
        obtain ⟨b1, b2⟩ := (mem_live O.sz).1 (List.mem_of_getElem? hq)
        obtain ⟨y, K, a1, a2, a3⟩ := O.at_ i0 k b1 b2
        have exy : y = x := by
          rw [← e1, Array.getD_eq_getD_getElem?, ← Array.getElem?_toList, a1]; rfl
        subst exy
        refine ⟨K, a2, fun c hc => ?_⟩
        show way M y c ∈ (liveOf M owner).map (·.1)
        cases z : oAt owner (way M y c) with
        | none => exact absurd z (a3 c hc)
        | some k' => exact List.mem_map.mpr ⟨(way M y c, k'), (mem_live O.sz).2 ⟨way_in M y c, z⟩, rfl⟩ }
end Ps

end
section
set_option Elab.async false
set_option linter.all false
set_option maxRecDepth 100000
set_option maxHeartbeats 4000000
namespace Ps
open PySem PySem.Spec PyProof.Rows L2
section
variable {P : Program} {w : World} {A : Around} {E : Value → Shared → Prop} {s : Shared} {a : Addr} {es : Array (Int × Value)} {ep : Nat} {t : SetTable}
abbrev tupAt (P : Program) (w : World) (h : Heap) (k : List Key) (b : Addr) : Prop := IsTupleKey (mixKind P w) h k b
abbrev tupH (P : Program) (w : World) (k : List Key) : Int := tupleKeyHash (mixKind P w) k
def isT (P : Program) (w : World) (h : Heap) (k : List Key) (v : Value) : Prop := ∃ b, v = .ref b ∧ tupAt P w h k b
theorem keys_of {k : List Key} {vs : List Value} (h : ItemsAre (mixKind P w) k vs) : ∀ v ∈ vs, (∃ i t, v = Value.int i t) ∨ ∃ x t, v = Value.str x t := by
  induction h with
  | nil => exact fun v z => nomatch z
  | @cons k0 u ks us h1 _ ih =>
    intro v hv
    rcases List.mem_cons.mp hv with rfl | hv
    · rcases keyIs_shape (show keyIs k0 v = true from h1) with ⟨i, t, _, rfl⟩ | ⟨x, t, _, rfl⟩
      · exact .inl ⟨i, t, rfl⟩
      · exact .inr ⟨x, t, rfl⟩
    · exact ih v hv
theorem no_class {v : Value} (h : (∃ i t, v = Value.int i t) ∨ ∃ x t, v = Value.str x t) (n : Nat) : ofAClassStatement n v = pure false := by
  rcases h with ⟨i, t, rfl⟩ | ⟨x, t, rfl⟩ <;> cases n <;> rfl
theorem by_value {v : Value} (h : (∃ i t, v = Value.int i t) ∨ ∃ x t, v = Value.str x t) (n : Nat) : ∃ b, hashByValue n v = pure b := by
  rcases h with ⟨i, t, rfl⟩ | ⟨x, t, rfl⟩ <;> cases n <;> exact ⟨_, rfl⟩
theorem ask_all {f : Value → Option Bool × Unit → Sem (ForInStep (Option Bool × Unit))} (l : List Value) {C : Value → Prop} (hC : ∀ v ∈ l, C v) {Q : Option Bool × Unit → Shared → Prop}
    (hf : ∀ v r, C v → r.1 = none → ∀ (R : ForInStep (Option Bool × Unit) → Shared → Prop), (∀ r', r'.1 = none → R (.yield r') s) → wpAny (model P w) A (f v r) R E s) (r0 : Option Bool × Unit) (h0 : r0.1 = none) (h : ∀ r, r.1 = none → Q r s) :
    wpAny (model P w) A (forIn l r0 f) Q E s := by
  refine wpAny_forIn_list _ (fun rest r s' => r.1 = none ∧ s' = s ∧ ∀ v ∈ rest, C v) _ ?_ ?_ _ _ ⟨h0, rfl, hC⟩
  · rintro v rest r s' ⟨hr, rfl, hall⟩
    exact hf v r (hall v List.mem_cons_self) hr _ fun r' hr' => ⟨hr', rfl, fun u hu => hall u (List.mem_cons_of_mem _ hu)⟩
  · rintro r s' ⟨hr, rfl, _⟩
    exact h r hr
theorem tup_noClass {k : List Key} {b : Addr} {Q : Bool → Shared → Prop} (hk : tupAt P w s.heap k b) (h : Q false s) : wpAny (model P w) A (ofAClassStatement 8 (.ref b)) Q E s := by
  have hT := hk.typeIs
  obtain ⟨o, items, n, ho, _, hd, hi⟩ := hk
  unfold ofAClassStatement
  refine wpAny_bind (wpAny_typeOf hT ?_)
  dsimp only
  have e : (("tuple" : String) == "tuple") = true := by decide
  simp only [e, if_true, Bool.not_true, Bool.false_eq_true, if_false]
  try refine wpAny_bind (wpAny_pure ?_)
  try simp only [Bool.not_true, Bool.false_eq_true, if_false]
  show wpAny _ _ (seqItems? (.ref b) >>= _) _ _ s
  refine wpAny_bind (wpAny_seqItems ho hd ?_)
  dsimp only
  refine wpAny_bind ?_
  show wpAny _ _ (forIn items _ _) _ _ s
  rw [← Array.forIn_toList]
  refine ask_all items.toList (keys_of hi) (fun v r hv hr R hR => ?_) _ rfl fun r hr => ?_
  · rw [no_class hv]
    refine wpAny_bind (wpAny_pure ?_)
    simp only [Bool.false_eq_true, if_false]
    exact wpAny_pure (hR _ rfl)
  · obtain ⟨r1, r2⟩ := r
    simp only at hr
    subst hr
    exact wpAny_pure h
theorem tup_byValue {k : List Key} {b : Addr} {Q : Bool → Shared → Prop} (hk : tupAt P w s.heap k b) (h : ∀ x, Q x s) : wpAny (model P w) A (hashByValue 8 (.ref b)) Q E s := by
  have hT := hk.typeIs
  obtain ⟨o, items, n, ho, _, hd, hi⟩ := hk
  unfold hashByValue
  refine wpAny_bind (wpAny_specialOf hT F.slot_tuple_hash.lookup ?_)
  show wpAny _ _ (seqItems? (.ref b) >>= _) _ _ s
  refine wpAny_bind (wpAny_seqItems ho hd ?_)
  refine wpAny_bind ?_
  show wpAny _ _ (forIn items _ _) _ _ s
  rw [← Array.forIn_toList]
  refine wpAny_forIn_list _ (fun rest r s' => (r.1 = none ∨ ∃ x, r.1 = some x) ∧ s' = s ∧ ∀ v ∈ rest, (∃ i t, v = Value.int i t) ∨ ∃ x t, v = Value.str x t) _ ?_ ?_ _ _ ⟨.inl rfl, rfl, keys_of hi⟩
  · rintro v rest r s' ⟨hr, rfl, hall⟩
    obtain ⟨q, e⟩ := by_value (hall v List.mem_cons_self) 7
    rw [e]
    refine wpAny_bind (wpAny_pure ?_)
    cases q
    · simp only [Bool.not_false, if_true]
      exact wpAny_pure (wpAny_pure (h _))
    · simp only [Bool.not_true, Bool.false_eq_true, if_false]
      exact wpAny_pure ⟨.inl rfl, rfl, fun u hu => hall u (List.mem_cons_of_mem _ hu)⟩
  · rintro ⟨r1, r2⟩ s' ⟨hr, rfl, _⟩
    cases r1 with
    | none => exact wpAny_pure (h _)
    | some x => exact wpAny_pure (h _)
end
end Ps

end
section
set_option Elab.async false
set_option linter.all false
set_option maxRecDepth 100000
set_option maxHeartbeats 4000000
namespace Ps
open PySem PySem.Spec PyProof.Rows L2
section
variable {P : Program} {w : World} {A : Around} {E : Value → Shared → Prop} {s : Shared} {a : Addr} {es : Array (Int × Value)} {ep : Nat} {t : SetTable} {L : List (It (List Key))}
abbrev HoldsT (P : Program) (w : World) (h : Heap) (a : Addr) (L : List (It (List Key))) (es : Array (Int × Value)) (ep : Nat) (t : SetTable) : Prop := Holds 500 (isT P w) (tupH P w) w h a L es ep t
abbrev hashes (P : Program) (w : World) (L : List (It (List Key))) : List Int := L.map fun p => tupH P w p.2
def okT (t : SetTable) (hs : List Int) : Prop := TabW t hs ∧ hs.length * 5 < t.mask * 3
theorem not_seen {k : List Key} {b : Addr} {Q : Bool → Shared → Prop} (hk : tupAt P w s.heap k b) {ys : List Value} (hy : ∀ y ∈ ys, ∃ k', isT P w s.heap k' y) (h : Q false s) : wpAny (model P w) A (searchCouldBeSeen (.ref b) ys) Q E s := by
  unfold searchCouldBeSeen
  refine wpAny_bind ?_
  refine ask_all ys hy (fun v r hv hr R hR => ?_) _ rfl fun r hr => ?_
  · obtain ⟨k', c, rfl, hc⟩ := hv
    dsimp only
    by_cases q : (b == c || (carriedByValue (.ref b) && carriedByValue (.ref c))) = true
    · exact wp_if_pos q (wpAny_pure (hR _ rfl))
    · refine wp_if_neg q (wpAny_bind (wpAny_eqIsQuiet_tuple hk ?_))
      simp only [Bool.not_true, Bool.false_eq_true, if_false]
      refine wpAny_bind (wpAny_eqIsQuiet_tuple hc ?_)
      simp only [Bool.not_true, Bool.false_eq_true, if_false]
      refine wpAny_bind (tup_noClass hk ?_)
      simp only [Bool.false_eq_true, if_false]
      refine wpAny_bind (tup_noClass hc ?_)
      simp only [Bool.false_eq_true, if_false]
      exact wpAny_pure (hR _ rfl)
  · obtain ⟨r1, r2⟩ := r
    simp only at hr
    subst hr
    exact wpAny_pure h
theorem nd_dummy (m : Nat) : ∀ (n : Nat) (p : SetTable.Probe), p.dummy = none → (nth m p n).dummy = none
  | 0, p, h => h
  | n + 1, p, h => nd_dummy m n (adv m p) (by unfold adv; split <;> exact h)
abbrev stepAt (m : Nat) (h : Int) (c : Nat) : SetTable.Probe := nth m (runAt m (SetTable.bits h % (m + 1)) (SetTable.bits h)) c
theorem Holds.row (r : HoldsT P w s.heap a L es ep t) {i : Nat} {p : It (List Key)} (h : L[i]? = some p) : es[i]? = some (tupH P w p.2, p.1) := by
  rw [← Array.getElem?_toList, r.lay, List.getElem?_map, h]; rfl
theorem seek (r : HoldsT P w s.heap a L es ep t) (T : TabW t (hashes P w L)) {x : Addr} {k : List Key} (hx : tupAt P w s.heap k x) (hu : A.units < cLine) {K : Nat}
    (hK : way t.mask (tupH P w k) K ∉ t.place.toList) (hb : ∀ c, c < K → way t.mask (tupH P w k) c ∈ t.place.toList) (hf : K < 10 * SetTable.turns t.mask) {Q : SetFound → Shared → Prop}
    (yes : k ∈ L.map (·.2) → Q (.there none) s) (no : k ∉ L.map (·.2) → Q (.free (way t.mask (tupH P w k) K) false) s) :
    ∀ (fuel c : Nat) (stand : Option SetTable.Probe), stand.getD (t.probeStart (tupH P w k)) = stepAt t.mask (tupH P w k) c → c ≤ K → K - c < fuel →
      (∀ (i : Nat) p, L[i]? = some p → p.2 = k → ∃ d, c ≤ d ∧ d < K ∧ t.place.toList[i]? = some (way t.mask (tupH P w k) d)) →
      wpAny (model P w) A (setSearchFrom a (.ref x) (tupH P w k) true fuel stand) Q E s
  | 0, c, stand, _, _, hz, _ => absurd hz (Nat.not_lt_zero _)
  | fuel + 1, c, stand, hst, hc, hz, hre => by
    obtain ⟨o, ho, hex, hd⟩ := r.obj
    have gw : ¬ t.gaveWay = true := by
      unfold SetTable.gaveWay
      rw [T.mok.odd]
      decide
    rw [setSearchFrom_succ]
    refine wpAny_bind (wpAny_setState_of ho hd r.fit ?_)
    dsimp only
    refine wp_if_neg gw ?_
    try refine wpAny_bind (wpAny_pure ?_)
    have on : ∀ q, nth t.mask (stepAt t.mask (tupH P w k) c) q = stepAt t.mask (tupH P w k) (c + q) := fun q => (nth_add t.mask c _ q).symm
    have onj : ∀ q, (nth t.mask (stepAt t.mask (tupH P w k) c) q).j = way t.mask (tupH P w k) (c + q) := fun q => congrArg SetTable.Probe.j (on q)
    have endc : c + (K - c) = K := by omega
    have rowH : ∀ (i : Nat) p, L[i]? = some p → (es[i]?.map (·.1)).getD 0 = tupH P w p.2 := fun i p hp => by rw [r.row hp]; rfl
    rcases go_spec t T.ris T.dm (fun i => (es[i]?.map (·.1)).getD 0) (tupH P w k) (10 * SetTable.turns t.mask) (K - c) _ (nd_dummy t.mask c _ rfl) (by omega)
      (fun q hq => by rw [onj]; exact hb (c + q) (by omega)) (by rw [onj, endc]; exact hK) with ⟨q, i, hq, hi, hh, hno, hpr⟩ | ⟨hno, hpr⟩
    · -- an entry of this hash
      have pr : t.probe (fun i => (es[i]?.map (·.1)).getD 0) (tupH P w k) (stand.getD (t.probeStart (tupH P w k))) = some (.candidate (way t.mask (tupH P w k) (c + q)) i (stepAt t.mask (tupH P w k) (c + (q + 1)))) := by
        rw [hst, ← onj, ← on]
        exact hpr
      rw [pr]
      dsimp only
      rw [onj] at hi
      have hil : i < L.length := by
        have h1 := (List.getElem?_eq_some_iff.mp hi).1
        have h2 := T.sz
        rw [List.length_map] at h2
        rw [Array.length_toList] at h1
        omega
      obtain ⟨p, hp⟩ : ∃ p, L[i]? = some p := ⟨L[i], List.getElem?_eq_getElem hil⟩
      have hm : p ∈ L := List.mem_of_getElem? hp
      obtain ⟨y, ey, hy⟩ := r.mem p hm
      have behind : wpAny (model P w) A (searchRest a (.ref x) (tupH P w k) true fuel es t (way t.mask (tupH P w k) (c + q)) i (stepAt t.mask (tupH P w k) (c + (q + 1)))) Q E s := by
        unfold searchRest
        rw [r.row hp, ey]
        dsimp only
        refine wpAny_bind (wpAny_holding (wpAny_eqBool_tuple hu hy hx ?_))
        refine wpAny_bind (wpAny_setState_of ho hd r.fit ?_)
        dsimp only
        by_cases e : p.2 = k
        · exact wp_if_pos (by simp [e]) (wpAny_pure (yes (List.mem_map.mpr ⟨p, hm, e⟩)))
        · refine wp_if_neg (by simp [e]) ?_
          try refine wpAny_bind (wpAny_pure ?_)
          rw [sameMem]
          dsimp only
          have hsl : t.slot (way t.mask (tupH P w k) (c + q)) = .live i := slot_live T.ris hi
          simp only [if_true, hsl, r.row hp, ey]
          refine wpAny_bind (wpAny_isSame_ref_self (wpAny_bind (wpAny_pure ?_)))
          simp only [if_true]
          refine wp_if_neg (by simp [e]) ?_
          refine seek r T hx hu hK hb hf yes no fuel (c + (q + 1)) _ rfl (by omega) (by omega) fun i0 p0 h0 e0 => ?_
          obtain ⟨d, d1, d2, d3⟩ := hre i0 p0 h0 e0
          refine ⟨d, ?_, d2, d3⟩
          rcases Nat.lt_trichotomy d (c + q) with z | z | z
          · refine absurd ((rowH i0 p0 h0).trans (congrArg (tupH P w) e0)) (hno (d - c) i0 (by omega) ?_)
            rw [onj, show c + (d - c) = d by omega]; exact d3
          · subst z
            have s0 := slot_live T.ris d3
            rw [hsl] at s0
            injection s0 with s0
            rw [← s0, hp] at h0
            exact absurd ((congrArg Prod.snd (Option.some.inj h0)).trans e0) e
          · omega
      by_cases hl : t.led = true
      · refine wp_if_neg (by simp [hl]) ?_
        try refine wpAny_bind (wpAny_pure ?_)
        exact behind
      · refine wp_if_pos (by simp [hl]) (wpAny_bind (not_seen hx (fun v hv => ?_) ?_))
        · obtain ⟨e, he, rfl⟩ := List.mem_map.mp hv
          have he1 : e ∈ es.toList := by
            have : e ∈ es ∧ e.1 = tupH P w k := by simpa using he
            simpa using this.1
          rw [r.lay] at he1
          obtain ⟨p2, hp2, rfl⟩ := List.mem_map.mp he1
          exact ⟨p2.2, r.mem p2 hp2⟩
        · refine wp_if_neg (by decide) ?_
          try refine wpAny_bind (wpAny_pure ?_)
          exact behind
    · -- a free slot
      have pr : t.probe (fun i => (es[i]?.map (·.1)).getD 0) (tupH P w k) (stand.getD (t.probeStart (tupH P w k))) = some (.empty (way t.mask (tupH P w k) K) none) := by
        have e2 := onj (K - c)
        rw [endc] at e2
        rw [hst, ← e2]
        exact hpr
      rw [pr]
      dsimp only
      refine wpAny_pure (no fun hm => ?_)
      obtain ⟨p0, h0, e0⟩ := List.mem_map.mp hm
      obtain ⟨i0, hi0, ei⟩ := List.getElem_of_mem h0
      have h00 : L[i0]? = some p0 := by rw [List.getElem?_eq_getElem hi0, ei]
      obtain ⟨d, d1, d2, d3⟩ := hre i0 p0 h00 e0
      exact hno (d - c) i0 (by omega) (by rw [onj, show c + (d - c) = d by omega]; exact d3) ((rowH i0 p0 h00).trans (congrArg (tupH P w) e0))
theorem find_at (r : HoldsT P w s.heap a L es ep t) (T : okT t (hashes P w L)) {x : Addr} {k : List Key} (hx : tupAt P w s.heap k x) (hu : A.units < cLine) {Q : SetFound → Shared → Prop} (yes : k ∈ L.map (·.2) → Q (.there none) s)
    (no : ∀ K, k ∉ L.map (·.2) → way t.mask (tupH P w k) K ∉ t.place.toList → (∀ c, c < K → way t.mask (tupH P w k) c ∈ t.place.toList) → Q (.free (way t.mask (tupH P w k) K) false) s) :
    wpAny (model P w) A (setSearch a (.ref x) (tupH P w k) true) Q E s := by
  obtain ⟨T, room⟩ := T
  obtain ⟨K, hf, hK, hb⟩ := T.first (by omega) (tupH P w k)
  have big : 10 * SetTable.turns t.mask ≤ 20620 := by
    unfold SetTable.turns
    have := T.mok.le
    omega
  unfold setSearch
  refine seek r T hx hu hK hb hf yes (fun hn => no K hn hK hb) 100000 0 none rfl (Nat.zero_le _) (by omega) fun i p hp e => ?_
  have hi : (hashes P w L)[i]? = some (tupH P w k) := by rw [List.getElem?_map, hp, ← e]; rfl
  have hil : i < t.place.toList.length := by
    have h1 := (List.getElem?_eq_some_iff.mp hp).1
    have h2 := T.sz
    rw [List.length_map] at h2
    rw [Array.length_toList]
    omega
  have hj := List.getElem?_eq_getElem hil
  obtain ⟨c, hc, e⟩ := T.before hK hi hj
  exact ⟨c, Nat.zero_le _, hc, by rw [hj, e]⟩
theorem tup_same {h h' : Heap} {k : List Key} {v : Value} {o : Obj} (hv : isT P w h k v) (ho : h.get? a = some o) (hd : o.data = .set es ep t) (sb : Heap.SameBut a h h') : isT P w h' k v := by
  obtain ⟨b, rfl, o', items, n, ho', hc, hd', hi⟩ := hv
  refine ⟨b, rfl, o', items, n, (sb.2 b ?_).trans ho', hc, hd', hi⟩
  rintro rfl
  rw [ho'] at ho
  cases ho
  rw [hd] at hd'
  exact nomatch hd'
end
end Ps

end
section
set_option Elab.async false
set_option linter.all false
set_option maxRecDepth 100000
set_option maxHeartbeats 4000000
namespace Ps
open PySem PySem.Spec PyProof.Rows L2
theorem pick_all {α : Type} (L : List α) : (List.range L.length).filterMap (fun i => L[i]?) = L := by
  have go : ∀ n, n ≤ L.length → (List.range n).filterMap (fun i => L[i]?) = L.take n := by
    intro n
    induction n with
    | zero => intro _; rfl
    | succ n ih =>
      intro hn
      have h : n < L.length := hn
      rw [List.range_succ, List.filterMap_append, ih (Nat.le_of_lt h), List.take_succ, List.getElem?_eq_getElem h]
      simp [List.getElem?_eq_getElem h]
  rw [go _ (Nat.le_refl _), List.take_length]
section
variable {P : Program} {w : World} {A : Around} {E : Value → Shared → Prop} {s : Shared} {a : Addr} {es : Array (Int × Value)} {ep : Nat} {t : SetTable} {L : List (It (List Key))}
abbrev rowT (P : Program) (w : World) (p : It (List Key)) : Int × Value := (tupH P w p.2, p.1)
theorem reorder (hl : es.toList = L.map (rowT P w)) (order : Array Nat) (pm : order.toList.Perm (List.range L.length)) :
    ∃ M, (order.filterMap (es[·]?)).toList = M.map (rowT P w) ∧ M.Perm L ∧ hashes P w M = order.toList.map fun i => (es.map (·.1)).getD i 0 := by
  have row : ∀ i (h : i < L.length), es[i]? = some (rowT P w L[i]) := fun i h => by
    rw [← Array.getElem?_toList, hl, List.getElem?_map, List.getElem?_eq_getElem h]; rfl
  have go : ∀ l : List Nat, (∀ i ∈ l, i < L.length) → l.filterMap (fun i => es[i]?) = (l.filterMap fun i => L[i]?).map (rowT P w) ∧ hashes P w (l.filterMap fun i => L[i]?) = l.map fun i => (es.map (·.1)).getD i 0 := by
    intro l
    induction l with
    | nil => exact fun _ => ⟨rfl, rfl⟩
    | cons i l ih =>
      intro h
      have hi := h i List.mem_cons_self
      obtain ⟨e1, e2⟩ := ih fun j hj => h j (List.mem_cons_of_mem _ hj)
      rw [List.filterMap_cons_some (row i hi), List.filterMap_cons_some (List.getElem?_eq_getElem hi), e1]
      refine ⟨rfl, ?_⟩
      show tupH P w L[i].2 :: hashes P w _ = _
      rw [List.map_cons, e2]
      congr 1
      have e3 : (es.map (·.1))[i]? = some (tupH P w L[i].2) := by rw [Array.getElem?_map, row i hi]; rfl
      simp [Array.getD_eq_getD_getElem?, e3]
  obtain ⟨e1, e2⟩ := go order.toList fun i hi => List.mem_range.mp (pm.mem_iff.mp hi)
  refine ⟨_, by rw [Array.toList_filterMap]; exact e1, ?_, e2⟩
  have := pm.filterMap fun i => L[i]?
  rwa [pick_all] at this
theorem relay (r : HoldsT P w s.heap a L es ep t) (hdm : t.dummies = #[]) {wanted M : Nat} (hw : SetTable.sizeAbove wanted - 1 = M) (hM : WM M) (hz : SetTable.sizeAbove wanted ≤ 4096) (hn : L.length * 5 < M * 3) {Q : Unit → Shared → Prop}
    (hQ : ∀ h' L' es' ep' t', Heap.SameBut a s.heap h' → HoldsT P w h' a L' es' ep' t' → okT t' (hashes P w L') → L'.Perm L → Q () { s with heap := h' }) : wpAny (model P w) A (setRelay a wanted) Q E s := by
  obtain ⟨o, ho, hex, hd⟩ := r.obj
  have few := r.few
  have hsz : es.size = L.length := by rw [← Array.length_toList, r.lay, List.length_map]
  obtain ⟨t', order, e, pm, T, em, el, epl, ed⟩ := relaidW t (hs := es.map (·.1)) (wanted := wanted) hw hM (by rw [Array.size_map, hsz]; omega)
  rw [Array.size_map, hsz] at pm
  obtain ⟨N, e1, p1, e2⟩ := reorder r.lay order pm
  rw [← e2] at T
  have hs2 : (order.filterMap (es[·]?)).size = es.size := by rw [← Array.length_toList, e1, List.length_map, p1.length_eq, hsz]
  rw [setRelay_eq]
  refine wpAny_bind (wpAny_setState_of ho hd r.fit ?_)
  dsimp only
  refine wp_if_neg (by rw [sizeLine_eq]; omega) ?_
  try refine wpAny_bind (wpAny_pure ?_)
  rw [e]
  dsimp only
  refine wpAny_bind (wp_if_neg (by rw [hs2]; simp) ?_)
  try refine wpAny_bind (wpAny_pure ?_)
  refine wpAny_pure ?_
  dsimp only
  refine wpAny_storeSet_of ho hd ?_ (by rw [hs2, hsz, sizeLine_eq]; omega)
  have sb : Heap.SameBut a s.heap (s.heap.update a (Obj.putSet (order.filterMap (es[·]?)) t')) := Heap.SameBut.update ..
  obtain ⟨o1, ho1, hex1, hd1⟩ := store_obj (es' := order.filterMap (es[·]?)) (t' := t') ho hex hd
  have room : L.length * 5 < t'.mask * 3 := by rw [em]; exact hn
  refine hQ _ N _ (ep + 1) t' sb ⟨⟨o1, ho1, hex1, hd1⟩, e1, (p1.map (·.2)).nodup_iff.mpr r.once, fun p hp => tup_same (r.mem p (p1.mem_iff.mp hp)) ho hd sb, ?_, T.ris, by rw [el]; exact r.led, by rw [p1.length_eq]; exact few⟩ ⟨T, by rw [List.length_map, p1.length_eq]; exact room⟩ p1
  have q1 := T.sz
  rw [List.length_map, p1.length_eq] at q1
  unfold SetTable.fits SetTable.fill
  rw [ed, Bool.and_eq_true, beq_iff_eq, decide_eq_true_eq]
  show t'.place.size = _ ∧ t'.place.size + 0 ≤ t'.mask
  rw [hs2, hsz]
  omega
theorem tup_add {k : List Key} {v : Value} {Q : Bool → Shared → Prop} (hu : A.units < cLine) (r : HoldsT P w s.heap a L es ep t) (T : okT t (hashes P w L)) (hv : isT P w s.heap k v) (hfew : L.length + 1 < 500)
    (hQ : ∀ b h' L' es' ep' t', Heap.SameBut a s.heap h' → HoldsT P w h' a L' es' ep' t' → okT t' (hashes P w L') → (k ∈ L.map (·.2) → L' = L) → (k ∉ L.map (·.2) → L'.Perm ((v, k) :: L)) → Q b { s with heap := h' }) :
    wpAny (model P w) A (setAddHashed a v (tupH P w k)) Q E s := by
  obtain ⟨o, ho, hex, hd⟩ := r.obj
  obtain ⟨x, rfl, hx⟩ := hv
  have hsz : es.size = L.length := by rw [← Array.length_toList, r.lay, List.length_map]
  have T0 := T.1
  have room : L.length * 5 < t.mask * 3 := by have := T.2; rwa [List.length_map] at this
  unfold setAddHashed
  refine wpAny_holding ?_
  rw [show (100000 : Nat) = 99999 + 1 from rfl, setAddHashedIn_succ]
  refine wpAny_bind (wpAny_setState_of ho hd r.fit ?_)
  dsimp only
  refine wp_if_neg (by simp [byScan, Value.scannable]) ?_
  try refine wpAny_bind (wpAny_pure ?_)
  refine wpAny_bind (find_at r T hx hu (fun hm => ?_) fun K hm hK hb => ?_)
  · dsimp only
    exact wpAny_pure (hQ false s.heap L es ep t (Heap.SameBut.refl a s.heap) r T (fun _ => rfl) fun z => absurd hm z)
  · dsimp only
    refine wpAny_bind (wpAny_setState_of ho hd r.fit ?_)
    dsimp only
    obtain ⟨q1, q2, q3, q4, q5, q6, q7, q8, q9⟩ := T0.put hK hb
    rw [List.length_map] at q2 q9
    generalize gp : t.put (way t.mask (tupH P w k) K) = pt at q1 q3 q4 q5 q6 q7 q8 q9 ⊢
    obtain ⟨t1, n⟩ := pt
    dsimp only at q1 q3 q4 q5 q6 q7 q8 q9 ⊢
    subst q1
    generalize gn : SetTable.below t.place (way t.mask (tupH P w k) K) = n at q2 q3 ⊢
    have lay1 : (SetTable.insertAt es n (tupH P w k, Value.ref x)).toList = (L.take n ++ (Value.ref x, k) :: L.drop n).map (rowT P w) := by
      rw [SetTable.toList_insertAt, r.lay, List.map_append, List.map_cons, List.map_take, List.map_drop]
    have pm : (L.take n ++ (Value.ref x, k) :: L.drop n).Perm ((Value.ref x, k) :: L) := by
      have z : (L.take n ++ (Value.ref x, k) :: L.drop n).Perm ((Value.ref x, k) :: (L.take n ++ L.drop n)) := List.perm_middle
      rwa [List.take_append_drop] at z
    have hh : hashes P w (L.take n ++ (Value.ref x, k) :: L.drop n) = (hashes P w L).take n ++ tupH P w k :: (hashes P w L).drop n := by
      show List.map _ _ = _
      rw [List.map_append, List.map_cons, List.map_take, List.map_drop]
    rw [← hh] at q3
    generalize L.take n ++ (Value.ref x, k) :: L.drop n = N at lay1 pm q3
    generalize SetTable.insertAt es n (tupH P w k, Value.ref x) = es1 at lay1 ⊢
    have hlen : N.length = L.length + 1 := pm.length_eq
    have hs1 : es1.size = L.length + 1 := by rw [← Array.length_toList, lay1, List.length_map, hlen]
    have nd : (N.map (·.2)).Nodup := (pm.map (·.2)).nodup_iff.mpr (List.nodup_cons.mpr ⟨hm, r.once⟩)
    have led1 : w.params.followText "set-order" = true ∨ t1.led = true := by rw [q5]; exact r.led
    -- behind the question whether it hashes by its value
    have rest : ∀ t2 : SetTable, t2.place = t1.place → t2.dummies = t1.dummies → t2.mask = t1.mask → t2.led = t1.led → t2.tooFull = t1.tooFull →
        wpAny (model P w) A (do
          storeSet a es1 t2
          if (!false && t2.tooFull) = true then setRelay a (SetTable.grown (es.size + 1))
          return true) Q E s := fun t2 g1 g2 g3 g4 g5 => by
      have T2 : TabW t2 (hashes P w N) := by
        refine ⟨by rw [g1]; exact q3.ris, by rw [g2]; exact q3.dm, by rw [g1]; exact q3.sz, by rw [g3]; exact q3.mok, fun y hy => by rw [g1] at hy; rw [g3]; exact q3.bd y hy, fun i h j hi hj => ?_⟩
        rw [g1] at hj
        obtain ⟨c, c1, c2⟩ := q3.reach i h j hi hj
        exact ⟨c, by rw [g3]; exact c1, fun c' hc' => by rw [g1, g3]; exact c2 c' hc'⟩
      have led2 : w.params.followText "set-order" = true ∨ t2.led = true := by rw [g4]; exact led1
      have sz2 : t2.place.size = L.length + 1 := by rw [T2.sz, List.length_map, hlen]
      have m2 : t2.mask = t.mask := g3.trans q4
      have fit2 : t2.fits es1.size = true := by
        unfold SetTable.fits SetTable.fill
        rw [T2.dm, Bool.and_eq_true, beq_iff_eq, decide_eq_true_eq]
        show t2.place.size = es1.size ∧ t2.place.size + 0 ≤ t2.mask
        rw [sz2, hs1, m2]
        rcases T0.mok with e | e | e | e | e <;> rw [e] at room ⊢ <;> omega
      refine wpAny_bind (wpAny_storeSet_of ho hd ?_ (by rw [hs1, sizeLine_eq]; omega))
      have sb : Heap.SameBut a s.heap (s.heap.update a (Obj.putSet es1 t2)) := Heap.SameBut.update ..
      obtain ⟨o1, ho1, hex1, hd1⟩ := store_obj (es' := es1) (t' := t2) ho hex hd
      generalize s.heap.update a (Obj.putSet es1 t2) = h1 at sb ho1 ⊢
      have r1 : HoldsT P w h1 a N es1 (ep + 1) t2 := ⟨⟨o1, ho1, hex1, hd1⟩, lay1, nd, fun p hp => by
        rcases List.mem_cons.mp (pm.mem_iff.mp hp) with z | z
        · rw [z]; exact tup_same ⟨x, rfl, hx⟩ ho hd sb
        · exact tup_same (r.mem p z) ho hd sb, fit2, T2.ris, led2, by rw [hlen]; exact hfew⟩
      have fillq : t2.tooFull = decide ((L.length + 1) * 5 ≥ t.mask * 3) := by
        rw [g5]
        unfold SetTable.tooFull
        rw [q9, q4]
      by_cases hf : (L.length + 1) * 5 ≥ t.mask * 3
      · rw [fillq, decide_eq_true hf]
        simp only [Bool.not_false, Bool.and_self, if_true]
        rw [hsz]
        have which : L.length = 4 ∨ L.length = 18 ∨ L.length = 76 ∨ L.length = 306 := by
          rcases T0.mok with e | e | e | e | e <;> rw [e] at hf room <;> omega
        have go : ∀ M, SetTable.sizeAbove (SetTable.grown (L.length + 1)) - 1 = M → WM M → SetTable.sizeAbove (SetTable.grown (L.length + 1)) ≤ 4096 → (L.length + 1) * 5 < M * 3 →
            wpAny (model P w) A (setRelay a (SetTable.grown (L.length + 1))) (fun _ s' => wpAny (model P w) A (pure true) Q E s') E { s with heap := h1 } := fun M g1 g2 g3 g4 =>
          relay (s := { s with heap := h1 }) r1 T2.dm g1 g2 g3 (by rw [hlen]; exact g4) fun h2 L2 es2 ep2 t3 sb2 r2 T3 p2 =>
            wpAny_pure (hQ true h2 L2 es2 ep2 t3 (sb.trans sb2) r2 T3 (fun z => absurd z hm) fun _ => p2.trans pm)
        refine wpAny_bind ?_
        have z3 : SetTable.sizeAbove (SetTable.grown 77) = 512 := by decide +kernel
        have z4 : SetTable.sizeAbove (SetTable.grown 307) = 2048 := by decide +kernel
        rcases which with e2 | e2 | e2 | e2
        · exact go 31 (by rw [e2, size_20]) (.inr (.inl rfl)) (by rw [e2, size_20]; decide) (by omega)
        · exact go 127 (by rw [e2, size_76]) (.inr (.inr (.inl rfl))) (by rw [e2, size_76]; decide) (by omega)
        · exact go 511 (by rw [e2, z3]) (.inr (.inr (.inr (.inl rfl)))) (by rw [e2, z3]; decide) (by omega)
        · exact go 2047 (by rw [e2, z4]) (.inr (.inr (.inr (.inr rfl)))) (by rw [e2, z4]; decide) (by omega)
      · rw [fillq, decide_eq_false hf]
        simp only [Bool.not_false, Bool.and_false, Bool.false_eq_true, if_false]
        try refine wpAny_bind (wpAny_pure ?_)
        exact wpAny_pure (hQ true h1 N es1 (ep + 1) t2 sb r1 ⟨T2, by rw [List.length_map, hlen, m2]; omega⟩ (fun z => absurd z hm) fun _ => pm)
    by_cases cp : t1.plain = true
    · rw [if_pos cp]
      refine wpAny_bind (tup_byValue hx fun bv => ?_)
      cases bv
      · exact rest { t1 with plain := false } rfl rfl rfl rfl rfl
      · exact rest t1 rfl rfl rfl rfl rfl
    · rw [if_neg cp]
      refine wpAny_bind (wpAny_pure ?_)
      exact rest t1 rfl rfl rfl rfl rfl
theorem okT_new (led : Bool) : okT (.fresh 0 0 led) [] := by
  refine ⟨⟨List.Pairwise.nil, rfl, rfl, .inl rfl, fun x hx => (by cases hx), fun i h j hi => (by simp at hi)⟩, ?_⟩
  show 0 * 5 < 7 * 3
  decide
def famT (P : Program) (w : World) : Fam P w (List Key) where
  is := isT P w
  hs := tupH P w
  cap := 500
  cap0 := by decide
  capOk := by decide
  ok := okT
  grow := fun {h h' k v} ⟨b, e, o, items, n, ho, r⟩ g => ⟨b, e, o, items, n, g b o ho, r⟩
  one := fun {h k k' v} ⟨b, e, x⟩ ⟨c, e', y⟩ => by
    rw [e] at e'
    cases e'
    exact x.inj y
  ok0 := okT_new
  hash := fun {A E s k v Q} hu ⟨b, e, x⟩ h => by
    subst e
    exact wpAny_pyHash_tuple hu x (h _ (Nat.le_add_right _ _))
  add := fun {A E s a L es ep t k v Q} hu r T hv few hQ => tup_add hu r T hv few hQ
end
section
variable {P : Program} {w : World} {α : Type} [DecidableEq α] {A : Around} {E : Value → Shared → Prop} {s : Shared}
theorem Fam.callSetT (Φ : Fam P w α) {l : Addr} {items : Array Value} (xs : List (It α)) {Q : Value → Shared → Prop} (hh : A.handled = none) (hl : s.heap.IsTuple l items) (hit : items.toList = xs.map (·.1))
    (hx : ∀ p ∈ xs, Φ.is s.heap p.2 p.1) (hfew : xs.length < Φ.cap) (hu : A.units + 3 < cLine)
    (h : ∀ (h' : Heap) (tk : Nat) L, Φ.At h' s.heap.objs.size L → Part xs L → (∀ b o, s.heap.get? b = some o → h'.get? b = some o) → Q (.ref s.heap.objs.size) { s with heap := h', toks := tk }) :
    wpAny (model P w) A (call (.type "set") [.ref l]) Q E s := by
  have sz : items.size = xs.length := by rw [← Array.length_toList, hit, List.length_map]
  obtain ⟨c, tl, hmro⟩ := F.called_set.mro
  have hmade := F.called_set.made
  have hsub := F.called_set.sub
  have h1 := F.called_set.notType
  have h2 := F.called_set.canCreate
  have hct := F.typeCall_set_1 (.ref l)
  refine wpAny_call (codeAny_of_tree ?_)
  show wpAny _ _ (callAny (.type "set") _) _ _ _
  refine wpAny_pure ⟨Code.quiet_builtin _ (by decide +kernel), codeAny_builtin F.entry_type_call ?_⟩
  rw [Around.under_plain (weight_type_call_type "set" [.ref l] []) rfl]
  repeat (any_goals (first | assumption | wp_step))
  refine codeAny_mono (code_set_led1 (.ref l) (E := E) (Q₁ := fun v s1 => v = .ref s.heap.objs.size ∧ s1 = { s with heap := s.heap.push (bare w) }) ⟨rfl, rfl⟩) fun r s1 hr => ?_
  cases r with
  | error e => exact hr
  | ok fl =>
    cases fl with
    | ret v =>
      obtain ⟨rfl, rfl⟩ := hr
      have eS : (s.heap.push (bare w)).get? s.heap.objs.size = some (bare w) := Heap.get?_push_size _ rfl
      have hT : Shared.TypeIs { s with heap := s.heap.push (bare w) } (.ref s.heap.objs.size) "set" := ⟨_, eS, rfl⟩
      have hli := F.called_set.init.lookup
      have hbi := F.called_set.init.bind (.ref s.heap.objs.size)
      repeat (any_goals (first | assumption | wp_step))
      refine codeAny_mono (codeAny_call_builtin (R := wants (fun r s2 => r = .none ∧ ∃ h' tk L, s2 = { s with heap := h', toks := tk } ∧ Φ.At h' s.heap.objs.size L ∧ Part xs L ∧ ∀ b o, s.heap.get? b = some o → h'.get? b = some o) E)
        F.called_set.init.plain F.entry_set_init (check_set_init_1 hT ?_)) fun r2 s2 hr2 => ?_
      · obtain ⟨ol, eol, cl, nl, dl⟩ := hl
        obtain ⟨oc, od, oda, os⟩ := ol
        simp only at cl dl
        subst cl; subst dl
        have eol' : (s.heap.push (bare w)).get? l = some { cls := .type "tuple", dict := od, data := .seq items nl, slots := os } := Heap.get?_push_of_some _ eol
        have isl : (s.heap.push (bare w)).IsTuple l items := ⟨_, eol', rfl, nl, rfl⟩
        have q1 := F.sub_tuple_set
        have q2 := F.sub_tuple_frozenset
        have q3 : (Value.type "tuple" == Value.type "dict") = false := by decide
        unfold Builtin.«set.__init__» noKeywords Builtin.Frozenset.updateFrom
        generalize gPI : pyIter = PI
        wp_walk
        subst gPI
        refine wpAny_pyIter_tuple isl (wpAny_bind (wpAny_runValue ?_))
        have lS : l < s.heap.objs.size := Heap.lt_size eol
        have size1 : (s.heap.push (bare w)).objs.size = s.heap.objs.size + 1 := Heap.size_push ..
        have hh3 : A.in1.in1.in1.handled = none := by simp [hh]
        have lI : l ≠ (s.heap.push (bare w)).objs.size := by rw [size1]; exact Nat.ne_of_lt (Nat.lt_succ_of_lt lS)
        have nS : s.heap.objs.size ∉ [(s.heap.push (bare w)).objs.size, l] := by
          rw [size1]
          simp only [List.mem_cons, List.mem_singleton, List.not_mem_nil, or_false, not_or]
          exact ⟨Nat.ne_of_lt (Nat.lt_succ_self _), Nat.ne_of_gt lS⟩
        have val : ∀ (i : Nat) (v : Value), items[i]? = some v → ∃ k, xs[i]? = some (v, k) := fun i v hv => by
          rw [← Array.getElem?_toList, hit, List.getElem?_map] at hv
          obtain ⟨p, e1, e2⟩ := Option.map_eq_some_iff.mp hv
          exact ⟨p.2, by rw [e1, ← e2]⟩
        refine Φ.turns ((Walks.tuple hh3 _ l lI items).toS) nS xs sz hfew val s.heap hx (free_of _ (Nat.le_refl _)) (fun b hb => free_of _ (by rw [List.mem_singleton.mp hb, size1]; omega)) hu
          items.size 0 _ [] (Nat.zero_add _) ⟨⟨_, Heap.get?_push_size _ rfl, rfl, rfl⟩, isl.at fun o e => Heap.get?_push_of_some _ e⟩ (fun b o e => Heap.get?_push_of_some _ (Heap.get?_push_of_some _ e)) (Φ.new (Heap.get?_push_of_some _ eS)) ⟨fun p z => (by cases z), fun p z => (by cases z)⟩ (Nat.zero_le _) ?_
        intro s' L hm x g k
        obtain ⟨h', g', d', tk', os'⟩ := s'
        have eg : g' = s.gens := hm.gens
        have ed : d' = s.drawn := hm.drawn
        have eo : os' = s.os := hm.os
        subst eg; subst ed; subst eo
        show wpAny _ _ _ _ _ _
        refine wpAny_pure ?_
        show wpAny _ _ (ret Value.none) _ _ _
        exact wpAny_pure ⟨rfl, h', tk', L, rfl, x, g, k⟩
      · cases r2 with
        | error e => exact hr2
        | ok f2 =>
          cases f2 with
          | ret r =>
            obtain ⟨rfl, h', tk, L, rfl, x, g, k⟩ := hr2
            repeat (any_goals (first | assumption | wp_step))
            exact h _ _ _ x g k
          | _ => exact hr2.elim
    | _ => exact hr.elim
end
end Ps

end
section
set_option Elab.async false
set_option linter.all false
set_option maxRecDepth 100000
set_option maxHeartbeats 4000000
namespace Pi
open PySem PySem.Spec PyProof.Rows L2
open PySem.W (dataLt alike alikeAll keyToks keyToksAll)
theorem tok_key {x y : D} (hx : keyD x = true) (hy : keyD y = true) {l m : List (Int ⊕ List Nat)} (h : keyToks x ++ l = keyToks y ++ m) : x = y ∧ l = m := by
  cases x with
  | int i =>
    cases y with
    | int j =>
      simp only [keyToks, List.cons_append, List.nil_append, List.cons.injEq] at h
      exact ⟨by rw [Sum.inl.inj h.1], h.2⟩
    | str z => simp [keyToks] at h
    | _ => cases hy
  | str w =>
    cases y with
    | int j => simp [keyToks] at h
    | str z =>
      simp only [keyToks, List.cons_append, List.nil_append, List.cons.injEq] at h
      exact ⟨by rw [PySem.W.str_of_cps (Sum.inr.inj h.1)], h.2⟩
    | _ => cases hy
  | _ => cases hx
theorem tok_keys : ∀ {xs ys : List D}, xs.all keyD = true → ys.all keyD = true → keyToksAll xs = keyToksAll ys → xs = ys
  | [], [], _, _, _ => rfl
  | [], y :: ys, _, _, h => by simp [keyToksAll] at h
  | x :: xs, [], _, _, h => by simp [keyToksAll] at h
  | x :: xs, y :: ys, hx, hy, h => by
    rw [List.all_cons, Bool.and_eq_true] at hx hy
    simp only [keyToksAll, List.cons.injEq, true_and] at h
    obtain ⟨e1, e2⟩ := tok_key hx.1 hy.1 h
    rw [e1, tok_keys hx.2 hy.2 e2]
theorem tkeyD_all {xs : List D} (h : tkeyD (.tuple xs) = true) : xs.all keyD = true := by
  cases xs with
  | nil => cases h
  | cons x xs => rw [List.all_cons]; exact h
def skey (x : D) : Bool := keyD x || tkeyD x
theorem same_of_lt {x y : D} (hx : skey x = true) (hy : skey y = true) (al : alike x y = true) (h1 : dataLt x y = false) (h2 : dataLt y x = false) : x = y := by
  have h3 : keyToks x = keyToks y := PyProof.Rows.lex_total (O := itemOrd) _ _ h1 h2
  cases x with
  | int i =>
    cases y with
    | int j => exact (tok_key (l := []) (m := []) rfl rfl (by rw [h3])).1
    | _ => simp [alike] at al
  | str i =>
    cases y with
    | str j => exact (tok_key (l := []) (m := []) rfl rfl (by rw [h3])).1
    | _ => simp [alike] at al
  | tuple xs =>
    cases y with
    | tuple ys =>
      simp only [skey, keyD, Bool.false_or] at hx hy
      simp only [keyToks] at h3
      rw [tok_keys (tkeyD_all hx) (tkeyD_all hy) h3]
    | _ => simp [alike] at al
  | _ => cases hx
theorem lt_self (x : D) : dataLt x x = false := PyProof.Rows.lex_irrefl (O := itemOrd) _
theorem lt_tr {x y z : D} (h1 : dataLt x y = true) (h2 : dataLt y z = true) : dataLt x z = true := PyProof.Rows.lex_trans (O := itemOrd) _ _ _ h1 h2
theorem lt_as {x y : D} (h : dataLt x y = true) : dataLt y x = false := by
  cases e : dataLt y x with
  | false => rfl
  | true => exact absurd ((lt_self x).symm.trans (lt_tr h e)) (by decide)
structure Kin (xs : List D) : Prop where
  key : ∀ x ∈ xs, skey x = true
  al : ∀ x ∈ xs, ∀ y ∈ xs, alike x y = true
theorem Kin.sub {xs ys : List D} (k : Kin xs) (h : ∀ y ∈ ys, y ∈ xs) : Kin ys := ⟨fun x hx => k.key x (h x hx), fun x hx y hy => k.al x (h x hx) y (h y hy)⟩
theorem setOk_of {xs : List D} (h : setOk xs = true) : ((xs.length < 1000 ∧ ∀ x ∈ xs, keyD x = true) ∨ (xs.length < 500 ∧ ∀ x ∈ xs, tkeyD x = true)) ∧ Kin xs := by
  unfold setOk at h
  simp only [Bool.and_eq_true, List.all_eq_true, decide_eq_true_eq, Bool.or_eq_true] at h
  obtain ⟨⟨h1, h2⟩, h3⟩ := h
  refine ⟨h2.imp (fun z => ⟨h1, z⟩) id, fun x hx => ?_, fun x hx y hy => h3 x hx y hy⟩
  unfold skey
  rcases h2 with h2 | ⟨_, h2⟩
  · rw [h2 x hx]; rfl
  · rw [h2 x hx, Bool.or_true]
theorem mem_uins {x : D} : ∀ {ys : List D}, Kin (x :: ys) → ∀ z, z ∈ uinsD x ys ↔ z = x ∨ z ∈ ys
  | [], _, z => by simp [uinsD]
  | y :: ys, k, z => by
    have k2 : Kin (x :: ys) := k.sub fun u hu => by rcases List.mem_cons.mp hu with e | e <;> simp [e]
    unfold uinsD
    split
    · rw [List.mem_cons, mem_uins k2 z, List.mem_cons]
      constructor
      · rintro (h | h | h)
        · exact .inr (.inl h)
        · exact .inl h
        · exact .inr (.inr h)
      · rintro (h | h | h)
        · exact .inr (.inl h)
        · exact .inl h
        · exact .inr (.inr h)
    · rename_i h1
      split
      · rw [List.mem_cons]
      · rename_i h2
        have e : x = y := same_of_lt (k.key x (by simp)) (k.key y (by simp)) (k.al x (by simp) y (by simp)) (by simpa using h2) (by simpa using h1)
        rw [e]
        constructor
        · exact .inr
        · rintro (h | h)
          · rw [h]; exact List.mem_cons_self
          · exact h
theorem mem_usort : ∀ {xs : List D}, Kin xs → ∀ z, z ∈ usortD xs ↔ z ∈ xs
  | [], _, z => by simp [usortD]
  | x :: xs, k, z => by
    have k1 : Kin xs := k.sub fun u hu => List.mem_cons_of_mem _ hu
    have k2 : Kin (x :: usortD xs) := k.sub fun u hu => by
      rcases List.mem_cons.mp hu with e | e
      · rw [e]; exact List.mem_cons_self
      · exact List.mem_cons_of_mem _ ((mem_usort k1 u).mp e)
    rw [show usortD (x :: xs) = uinsD x (usortD xs) from rfl, mem_uins k2, mem_usort k1, List.mem_cons]
theorem uins_up {x : D} : ∀ {ys : List D}, Kin (x :: ys) → ys.Pairwise (fun a b => dataLt a b = true) → (uinsD x ys).Pairwise fun a b => dataLt a b = true
  | [], _, _ => by simp [uinsD]
  | y :: ys, k, p => by
    have k2 : Kin (x :: ys) := k.sub fun u hu => by rcases List.mem_cons.mp hu with e | e <;> simp [e]
    obtain ⟨p1, p2⟩ := List.pairwise_cons.mp p
    unfold uinsD
    split
    · rename_i h1
      refine List.pairwise_cons.mpr ⟨fun z hz => ?_, uins_up k2 p2⟩
      rcases (mem_uins k2 z).mp hz with e | e
      · rw [e]; exact h1
      · exact p1 z e
    · split
      · rename_i h2
        refine List.pairwise_cons.mpr ⟨fun z hz => ?_, p⟩
        rcases List.mem_cons.mp hz with e | e
        · rw [e]; exact h2
        · exact lt_tr h2 (p1 z e)
      · exact p
theorem usort_up : ∀ {xs : List D}, Kin xs → (usortD xs).Pairwise fun a b => dataLt a b = true
  | [], _ => List.Pairwise.nil
  | x :: xs, k => by
    have k1 : Kin xs := k.sub fun u hu => List.mem_cons_of_mem _ hu
    exact uins_up (k.sub fun u hu => by
      rcases List.mem_cons.mp hu with e | e
      · rw [e]; exact List.mem_cons_self
      · exact List.mem_cons_of_mem _ ((mem_usort k1 u).mp e)) (usort_up k1)
theorem le_eq (x y : D) : PySem.W.dataLe false (fun x : D => x) x y = !dataLt y x := by
  rw [PySem.W.dataLe_eq]; rfl
theorem nodup_up {xs : List D} (h : xs.Pairwise fun a b => dataLt a b = true) : xs.Nodup :=
  h.imp fun {a b} q e => by rw [e, lt_self] at q; cases q
theorem usort_one {xs ys : List D} (k : Kin xs) (hm : ∀ z, z ∈ ys ↔ z ∈ xs) (nd : ys.Nodup) (hs : ys.Pairwise fun a b => PySem.W.dataLe false (fun x : D => x) a b = true) : ys = usortD xs := by
  have up := usort_up k
  have pm : ys.Perm (usortD xs) := (List.perm_ext_iff_of_nodup nd (nodup_up up)).mpr fun z => (hm z).trans (mem_usort k z).symm
  refine pm.eq_of_pairwise (le := fun a b => PySem.W.dataLe false (fun x : D => x) a b = true) (fun a b ha hb h1 h2 => ?_) hs (up.imp fun {a b} q => by rw [le_eq, lt_as q]; rfl)
  have ma : a ∈ xs := (hm a).mp ha
  have mb : b ∈ xs := (mem_usort k b).mp hb
  rw [le_eq] at h1 h2
  exact same_of_lt (k.key a ma) (k.key b mb) (k.al a ma b mb) (by simpa using h2) (by simpa using h1)
section
variable {X : Cx} {α : Type} [DecidableEq α]
def At0 {P : Program} {w : World} (Φ : Ps.Fam P w α) (h : Heap) (a : Addr) (L : List (Ps.It α)) : Prop := ∃ (es : Array (Int × Value)) (ep : Nat) (t : SetTable), (∃ o, h.get? a = some o ∧ o.ExactSet ∧ o.data = .set es ep t) ∧ es.toList = (L.map fun p => (Φ.hs p.2, p.1)) ∧ (L.map (·.2)).Nodup ∧
  t.fits es.size = true ∧ Ris t.place.toList ∧ (w.params.followText "set-order" = true ∨ t.led = true) ∧ L.length < Φ.cap ∧ Φ.ok t (L.map fun p => Φ.hs p.2)
def FO {P : Program} {w : World} (Φ : Ps.Fam P w α) (a : Addr) (L : List (Ps.It α)) : HO := .ext fun h => At0 Φ h a L
theorem at0_of {P : Program} {w : World} {Φ : Ps.Fam P w α} {h : Heap} {a : Addr} {L : List (Ps.It α)} (x : Φ.At h a L) : At0 Φ h a L := by
  obtain ⟨es, ep, t, r, k⟩ := x
  exact ⟨es, ep, t, r.obj, r.lay, r.once, r.fit, r.up, r.led, r.few, k⟩
theorem of_at0 {P : Program} {w : World} {Φ : Ps.Fam P w α} {h : Heap} {a : Addr} {L : List (Ps.It α)} (x : At0 Φ h a L) (hm : ∀ p ∈ L, Φ.is h p.2 p.1) : Φ.At h a L := by
  obtain ⟨es, ep, t, h1, h2, h3, h4, h5, h6, h7, k⟩ := x
  exact ⟨es, ep, t, ⟨h1, h2, h3, hm, h4, h5, h6, h7⟩, k⟩
theorem fo_new {P : Program} {w : World} {Φ : Ps.Fam P w α} {H : Hp} {h : Heap} {a : Addr} {L : List (Ps.It α)} (x : At0 Φ h a L) : ObjOk P w H h a (FO Φ a L) := by
  obtain ⟨es, ep, t, ⟨o, ho, r⟩, q⟩ := id x
  refine ⟨x, ⟨o, ho⟩, fun h1 h2 p k => ?_⟩
  obtain ⟨es', ep', t', ⟨o', ho', r'⟩, q'⟩ := (p : At0 Φ h1 a L)
  exact ⟨es', ep', t', ⟨o', k o' ho', r'⟩, q'⟩
def Tells (K : PySem.W.Frag) (B : Addr → Prop) (H : Hp) (enc : α → D) (p : Ps.It α) : Prop := ∃ v, RelV v p.1 ∧ Rp K B H v (enc p.2)
structure FamD (X : Cx) (Φ : Ps.Fam X.prog X.w α) (enc : α → D) : Prop where
  is : ∀ {pins σ H s B k} {u : Value}, Inv X pins σ H s → Tells X.K B H enc (u, k) → Φ.is s.heap k u
  ok : ∀ k, okD (enc k) = true
  inj : ∀ k k', enc k = enc k' → k = k'
def rSetD (X : Cx) (Φ : Ps.Fam X.prog X.w α) (enc : α → D) : List V → Hp → VK → Prop := fun vs H Q => ∃ B v x ds, vs = [v] ∧ RpW X.K B H v x ∧ items x = some ds ∧ (∀ d ∈ ds, ∃ k, enc k = d) ∧ ds.length < Φ.cap ∧
  ∀ a L, H a = none → (∀ p ∈ L, Tells X.K B H enc p) → (∀ d, d ∈ L.map (fun p => enc p.2) ↔ d ∈ ds) → (L.map (·.2)).Nodup → Q (.ref a) (upd H a (FO Φ a L))
theorem items_at {K : PySem.W.Frag} {B : Addr → Prop} {H : Hp} {enc : α → D} : ∀ {vs : List V} {us : List Value} {ds : List D}, Vals vs us → RpAll K B H vs ds → (∀ d ∈ ds, ∃ k, enc k = d) → ∃ xs : List (Ps.It α), us = xs.map (·.1) ∧ ds = xs.map (fun p => enc p.2) ∧ ∀ p ∈ xs, Tells K B H enc p
  | _, _, _, .nil, .nil, _ => ⟨[], rfl, rfl, fun p hp => by cases hp⟩
  | _, _, _, .cons r t, .cons h g, hk => by
    obtain ⟨k, rfl⟩ := hk _ List.mem_cons_self
    obtain ⟨xs, e1, e2, h2⟩ := items_at t g fun d hd => hk d (List.mem_cons_of_mem _ hd)
    exact ⟨(_, k) :: xs, by rw [e1]; rfl, by rw [e2]; rfl, fun p hp => by
      rcases List.mem_cons.mp hp with e | e
      · rw [e]; exact ⟨_, r, h⟩
      · exact h2 p e⟩
theorem cr_set {Φ : Ps.Fam X.prog X.w α} {enc : α → D} (F : FamD X Φ enc) (hc : X.calm = true) (hu : X.A.units + 64 < cLine) : CallR X (.type "set") (rSetD X Φ enc) := by
  intro pins s σ H xs us Q I r ⟨B, v, x, ds, ev, hx, hi, hk, hf, q⟩
  subst ev
  have hn : H s.heap.objs.size = none := I.hok.fresh (Nat.le_refl _)
  have fin : ∀ (L0 : List (Ps.It α)), ds = L0.map (fun p => enc p.2) → (∀ p ∈ L0, Tells X.K B H enc p) → ∀ (h' : Heap) (tk : Nat) L, Φ.At h' s.heap.objs.size L → Ps.Part L0 L → (∀ b o, s.heap.get? b = some o → h'.get? b = some o) →
      ∃ u H1, Inv X pins σ H1 { s with heap := h', toks := tk } ∧ RelV u (.ref s.heap.objs.size) ∧ Q u H1 := fun L0 e2 h2 h' tk L x g k => by
    refine ⟨.ref s.heap.objs.size, upd H s.heap.objs.size (FO Φ s.heap.objs.size L), I.laid (t' := tk) k (Nat.le_refl _) (fo_new (at0_of x)), rfl, q _ L hn (fun p hp => h2 p (g.inn p hp)) (fun d => ?_) ?_⟩
    · rw [e2]
      constructor
      · intro h
        obtain ⟨p, hp, e⟩ := List.mem_map.mp h
        exact List.mem_map.mpr ⟨p, g.inn p hp, e⟩
      · intro h
        obtain ⟨p, hp, e⟩ := List.mem_map.mp h
        obtain ⟨p', hp', e'⟩ := List.mem_map.mp (g.all p hp)
        exact List.mem_map.mpr ⟨p', hp', by rw [← e, ← e']⟩
    · obtain ⟨es, ep, t, r', _⟩ := x
      exact r'.once
  cases x with
  | list xs =>
    cases hi
    obtain ⟨l, vs, rfl, hl, ra⟩ := hx.list
    rw [Vals.ref1 r]
    obtain ⟨its, rv, pl, hz⟩ := I.list hl
    obtain ⟨L0, e1, e2, h2⟩ := items_at rv ra hk
    exact Φ.callSet (P := X.prog) (w := X.w) L0 (I.ok.hd hc) pl.isList (by simpa using e1) (fun p hp => F.is I (h2 p hp)) (by rw [e2, List.length_map] at hf; exact hf) (by omega) (fin L0 e2 h2)
  | tuple xs =>
    cases hi
    obtain ⟨l, vs, rfl, hl, ra, _⟩ := hx.tuple
    rw [Vals.ref1 r]
    obtain ⟨its, rv, pl, hz⟩ := I.tuple hl
    obtain ⟨L0, e1, e2, h2⟩ := items_at rv ra hk
    exact Φ.callSetT (P := X.prog) (w := X.w) L0 (I.ok.hd hc) pl (by simpa using e1) (fun p hp => F.is I (h2 p hp)) (by rw [e2, List.length_map] at hf; exact hf) (by omega) (fin L0 e2 h2)
  | _ => cases hi
def rSrtD (X : Cx) (Φ : Ps.Fam X.prog X.w α) (enc : α → D) : List V → Hp → VK → Prop := fun vs H Q => ∃ a L B H0, vs = [V.ref a] ∧ H a = some (FO Φ a L) ∧ (∀ v d, Rp X.K B H0 v d → Rp X.K B H v d) ∧ (∀ p ∈ L, Tells X.K B H0 enc p) ∧ PySem.W.AllAlike (L.map fun p => enc p.2) ∧ PySem.W.Sortable (L.map fun p => enc p.2) ∧
  ∀ p vs' ds, H p = none → ds.Perm (L.map fun p => enc p.2) → ds.Pairwise (fun a b => PySem.W.dataLe false (fun x : D => x) a b = true) → RpAll X.K B H0 vs' ds → Q (.ref p) (upd H p (.lst vs'))
theorem rp_of_tells {K : PySem.W.Frag} {B : Addr → Prop} {H : Hp} {enc : α → D} : ∀ {L : List (Ps.It α)}, (∀ p ∈ L, Tells K B H enc p) → ∃ vs, Vals vs (L.map (·.1)) ∧ RpAll K B H vs (L.map fun p => enc p.2)
  | [], _ => ⟨[], .nil, .nil⟩
  | p :: L, h => by
    obtain ⟨v, r, x⟩ := h p List.mem_cons_self
    obtain ⟨vs, r2, x2⟩ := rp_of_tells fun q hq => h q (List.mem_cons_of_mem _ hq)
    exact ⟨v :: vs, .cons r r2, .cons x x2⟩
theorem cr_sortS {Φ : Ps.Fam X.prog X.w α} {enc : α → D} (F : FamD X Φ enc) (hc : X.calm = true) (hu : X.A.units + 64 < cLine) : CallR X (.builtin "sorted") (rSrtD X Φ enc) := by
  intro pins s σ H vs us Q I r ⟨a, L, B, H0, ev, ha, hgr, hk0, hal, hsr, q⟩
  have hk : ∀ p ∈ L, Tells X.K B H enc p := fun p hp => (hk0 p hp).imp fun v h => ⟨h.1, hgr _ _ h.2⟩
  subst ev
  have R0 : At0 Φ s.heap a L := (I.hok a _ ha).1
  have x : Φ.At s.heap a L := of_at0 R0 fun p hp => F.is I (hk p hp)
  have few : L.length < Φ.cap := by
    obtain ⟨es, ep, t, r', _⟩ := id x
    exact r'.few
  have okL : ∀ p : Ps.It α, (enc p.2).plain = true ∧ (enc p.2).depth ≤ 60 := fun p => by
    have := F.ok p.2
    unfold okD at this
    rwa [Bool.and_eq_true, decide_eq_true_eq] at this
  rw [Vals.ref1 r]
  refine Φ.sortSet x (I.ok.hd hc) enc (fun h g p hp => ?_) hal hsr (fun p hp => ?_) fun s' p out c L' k g o hp hg hout pm pw => ?_
  · obtain ⟨v, r1, r2⟩ := hk p hp
    obtain ⟨as, ra⟩ := Dp.reads I _ v _ (r2.dp (okL p).1) r1
    refine ⟨as, PyProof.Rows.Reads.keeps g ra, fun c hc => ?_⟩
    obtain ⟨o, ho⟩ := PyProof.On.reads_mem_get ra c hc
    exact Heap.lt_size ho
  · have := (okL p).2
    omega
  · have hk' : ∀ p ∈ L', Tells X.K B H0 enc p := fun p hp => hk0 p (pm.mem_iff.mp hp)
    obtain ⟨vs', rv, ra⟩ := rp_of_tells hk'
    rw [← hout] at rv
    have hlen : vs'.length ≤ sizeLine := by
      have cpk := Φ.capOk
      rw [ra.length, List.length_map, pm.length_eq, sizeLine_eq]; omega
    have hn : H p = none := I.hok.fresh hp
    have J : Inv X pins σ (upd H p (.lst vs')) { s with heap := s'.heap, gens := s'.gens, drawn := s'.drawn, toks := s'.toks } :=
      I.call (ch := []) (Un.laid k hp hn) (I.hok.laid k hp ⟨hlen, out.toList, c, rv, hg⟩) (by rw [g]; exact I.bare) (fun _ z => nomatch z)
    have e : s' = { s with heap := s'.heap, gens := s'.gens, drawn := s'.drawn, toks := s'.toks } := by
      cases s'
      cases s
      cases o
      rfl
    rw [e]
    refine ⟨.ref p, _, J, rfl, q p vs' _ hn (pm.map _) (List.pairwise_map.mpr (pw.imp fun {a b} h => ?_)) ra⟩
    exact h
def rLenD (X : Cx) (Φ : Ps.Fam X.prog X.w α) : List V → Hp → VK → Prop := fun vs H Q => ∃ a L, vs = [V.ref a] ∧ H a = some (FO Φ a L) ∧ Q (.int (L.length : Nat)) H
theorem cr_lenS {Φ : Ps.Fam X.prog X.w α} : CallR X (.builtin "len") (rLenD X Φ) := by
  intro pins s σ H vs us Q I r ⟨a, L, ev, ha, q⟩
  subst ev
  obtain ⟨es, ep, t, ⟨o, ho, hex, hd⟩, lay, nd, fit, up, led, few, ok⟩ := (show At0 Φ s.heap a L from (I.hok a _ ha).1)
  have hes : es.size = L.length := by rw [← Array.length_toList, lay, List.length_map]
  have cpk := Φ.capOk
  rw [Vals.ref1 r]
  refine call_len_set ho hex hd fit (by rw [hes] <;> omega) ⟨.int L.length, H, I.tok _, ⟨_, by rw [hes]⟩, q⟩
end
section
variable {X : Cx}
theorem kD_inj : ∀ k k' : Key, kD k = kD k' → k = k'
  | .inl i, .inl j, h => by injection h with h; rw [h]
  | .inr i, .inr j, h => by injection h with h; rw [h]
  | .inl i, .inr j, h => by cases h
  | .inr i, .inl j, h => by cases h
theorem rp_kD {K : PySem.W.Frag} {B : Addr → Prop} {H : Hp} {v : V} {k : Key} (h : Rp K B H v (kD k)) : v = kV k := by
  rcases k with i | x
  · cases h; rfl
  · cases h; rfl
theorem rp_kDs {K : PySem.W.Frag} {B : Addr → Prop} {H : Hp} : ∀ {vs : List V} {ks : List Key}, RpAll K B H vs (ks.map kD) → vs = ks.map kV
  | [], [], _ => rfl
  | _ :: _, [], h => by cases h
  | [], _ :: _, h => by cases h
  | v :: vs, k :: ks, .cons h t => by rw [rp_kD h, rp_kDs t]; rfl
theorem famdK : FamD X (Ps.famK X.prog X.w) kD where
  is := fun {pins σ H s B k u} I ⟨v, r, x⟩ => by
    rw [rp_kD x] at r
    exact kV_is (P := X.prog) (w := X.w) r
  ok := fun k => by rcases k with i | x <;> rfl
  inj := kD_inj
abbrev ktD (ks : List Key) : D := .tuple (ks.map kD)
theorem map_kD_inj : ∀ ks js : List Key, ks.map kD = js.map kD → ks = js
  | [], [], _ => rfl
  | [], _ :: _, h => by cases h
  | _ :: _, [], h => by cases h
  | k :: ks, j :: js, h => by
    rw [List.map_cons, List.map_cons, List.cons.injEq] at h
    rw [kD_inj k j h.1, map_kD_inj ks js h.2]
theorem plain_kD : ∀ ks : List Key, PyData.plainAll (ks.map kD) = true
  | [] => rfl
  | .inl i :: ks => by rw [List.map_cons]; simp only [kD, PyData.plainAll, PyData.plain, Bool.true_and]; exact plain_kD ks
  | .inr i :: ks => by rw [List.map_cons]; simp only [kD, PyData.plainAll, PyData.plain, Bool.true_and]; exact plain_kD ks
theorem depth_kD : ∀ ks : List Key, PyData.depthAll (ks.map kD) ≤ 1
  | [] => by simp [PyData.depthAll]
  | .inl i :: ks => by
    rw [List.map_cons]
    have := depth_kD ks
    simp only [kD, PyData.depthAll, PyData.depth]
    omega
  | .inr i :: ks => by
    rw [List.map_cons]
    have := depth_kD ks
    simp only [kD, PyData.depthAll, PyData.depth]
    omega
theorem famdT : FamD X (Ps.famT X.prog X.w) ktD where
  is := fun {pins σ H s B k u} I ⟨v, r, x⟩ => by
    obtain ⟨a, vs, rfl, ha, ra, _⟩ := RpW.tuple (Or.inl x)
    obtain rfl : u = .ref a := r
    obtain ⟨its, rv, ⟨o, ho, hc, n, hd⟩, _⟩ := I.tuple ha
    rw [rp_kDs ra] at rv
    exact ⟨a, rfl, o, its.toArray, n, ho, hc, hd, by simpa using items_are (P := X.prog) (w := X.w) rv⟩
  ok := fun ks => by
    unfold okD
    rw [Bool.and_eq_true, decide_eq_true_eq]
    have := depth_kD ks
    refine ⟨?_, ?_⟩
    · show PyData.plain (.tuple (ks.map kD)) = true
      simp only [PyData.plain]
      exact plain_kD ks
    · show PyData.depth (.tuple (ks.map kD)) ≤ 60
      simp only [PyData.depth]
      omega
  inj := fun k k' h => map_kD_inj _ _ (by injection h)
theorem of_keyD {d : D} (h : keyD d = true) : ∃ k, kD k = d := by
  cases d with
  | int i => exact ⟨.inl i, rfl⟩
  | str i => exact ⟨.inr i, rfl⟩
  | _ => cases h
theorem of_keyDs : ∀ {ds : List D}, ds.all keyD = true → ∃ ks : List Key, ks.map kD = ds
  | [], _ => ⟨[], rfl⟩
  | d :: ds, h => by
    rw [List.all_cons, Bool.and_eq_true] at h
    obtain ⟨k, rfl⟩ := of_keyD h.1
    obtain ⟨ks, rfl⟩ := of_keyDs h.2
    exact ⟨k :: ks, rfl⟩
theorem of_tkeyD {d : D} (h : tkeyD d = true) : ∃ k, ktD k = d := by
  cases d with
  | tuple xs =>
    obtain ⟨ks, e⟩ := of_keyDs (tkeyD_all h)
    exact ⟨ks, by show PyData.tuple (ks.map kD) = _; rw [e]⟩
  | _ => cases h
theorem cr_or {f : Value} {r1 r2 : List V → Hp → VK → Prop} (h1 : CallR X f r1) (h2 : CallR X f r2) : CallR X f (fun vs H Q => r1 vs H Q ∨ r2 vs H Q) := fun pins s σ H xs us Q I r h => h.elim (h1 pins s σ H xs us Q I r) (h2 pins s σ H xs us Q I r)
def rSetA (X : Cx) : List V → Hp → VK → Prop := fun vs H Q => rSetD X (Ps.famK X.prog X.w) kD vs H Q ∨ rSetD X (Ps.famT X.prog X.w) ktD vs H Q
def rSrtA (X : Cx) : List V → Hp → VK → Prop := fun vs H Q => rSrtD X (Ps.famK X.prog X.w) kD vs H Q ∨ rSrtD X (Ps.famT X.prog X.w) ktD vs H Q
def rLenA (X : Cx) : List V → Hp → VK → Prop := fun vs H Q => rLenD X (Ps.famK X.prog X.w) vs H Q ∨ rLenD X (Ps.famT X.prog X.w) vs H Q
theorem cr_setA (hc : X.calm = true) (hu : X.A.units + 64 < cLine) : CallR X (.type "set") (rSetA X) := cr_or (cr_set famdK hc hu) (cr_set famdT hc hu)
theorem cr_srtA (hc : X.calm = true) (hu : X.A.units + 64 < cLine) : CallR X (.builtin "sorted") (rSrtA X) := cr_or (cr_sortS famdK hc hu) (cr_sortS famdT hc hu)
theorem cr_lenA : CallR X (.builtin "len") (rLenA X) := cr_or cr_lenS cr_lenS
theorem kin_alike {xs ys : List D} (k : Kin xs) (h : ∀ d, d ∈ ys ↔ d ∈ xs) : PySem.W.AllAlike ys := fun d hd d' hd' => k.al d ((h d).mp hd) d' ((h d').mp hd')
theorem sortable_key {xs : List D} (h : ∀ d ∈ xs, keyD d = true) : PySem.W.Sortable xs := .inr fun d hd => by
  have := h d hd
  cases d <;> first | (cases this; done) | exact ⟨fun z => (by cases z), fun _ z => (by cases z)⟩
theorem sortable_tkey {xs : List D} (h : ∀ d ∈ xs, tkeyD d = true) : PySem.W.Sortable xs := .inl fun d hd => by
  have := h d hd
  cases d with
  | tuple l =>
    cases l with
    | nil => cases this
    | cons a b => exact ⟨a, b, rfl⟩
  | _ => cases this
theorem sset_im {v : V} {H : Hp} {Q : VK} (h : rFn X.K (f1D .sset) v H Q) : rSetA X [v] H fun u H2 => rSrtA X [u] H2 Q := by
  obtain ⟨B, x, w, tr, hx, e, q⟩ := h
  obtain ⟨ds, hi, e⟩ : ∃ ds, items x = some ds ∧ (setD ds).map (fun ys => Vl.fr (.list ys)) = some w := by
    cases x with
    | list ds => exact ⟨ds, rfl, e⟩
    | tuple ds => exact ⟨ds, rfl, e⟩
    | _ => cases e
  ·
    obtain ⟨ys, e1, rfl⟩ := Option.map_eq_some_iff.mp e
    obtain ⟨hok, e2⟩ := dec2 (show (if setOk ds = true then some (usortD ds) else none) = some ys from e1)
    subst e2
    obtain ⟨hkind, kin⟩ := setOk_of hok
    have main : ∀ {α : Type} [DecidableEq α] (Φ : Ps.Fam X.prog X.w α) (enc : α → D) (F : FamD X Φ enc) (hlen : ds.length < Φ.cap) (hk : ∀ d ∈ ds, ∃ k, enc k = d) (hs : ∀ ys : List D, (∀ d, d ∈ ys ↔ d ∈ ds) → PySem.W.Sortable ys), rSetD X Φ enc [v] H fun u H2 => rSrtD X Φ enc [u] H2 Q := by
      intro α _ Φ enc F hlen hk hs
      refine ⟨B, v, x, ds, rfl, hx, hi, hk, hlen, fun a L hn ht hm nd => ⟨a, L, B, H, rfl, upd_same, fun u d r => r.keep (keepN (fun a z => let ⟨o, e, _⟩ := tr a z; ⟨o, e⟩) hn), ht, kin_alike kin hm, hs _ hm, fun p vs' ds' hp pm pw ra => ?_⟩⟩
      have hpa : p ≠ a := fun z => by rw [z, upd_same] at hp; cases hp
      have hp0 : H p = none := by rwa [upd_ne hpa] at hp
      have nd2 : (L.map fun p => enc p.2).Nodup := by
        rw [show (L.map fun p => enc p.2) = (L.map (·.2)).map enc by rw [List.map_map]; rfl]
        exact List.pairwise_map.mpr (nd.imp fun {a b} z e => z (F.inj a b e))
      have eds : ds' = usortD ds := usort_one kin (fun z => (pm.mem_iff).trans (hm z)) (pm.nodup_iff.mpr nd2) pw
      rw [← eds] at q
      exact q p _ (fun b o hb => growN hp b o (growN hn b o hb)) hp0 ⟨vs', upd_same, ra⟩
    rcases hkind with ⟨hlen, hk⟩ | ⟨hlen, hk⟩
    · obtain ⟨B', v', x', ds', r1, r2, ri, r3, r4, r5⟩ := main (Ps.famK X.prog X.w) kD famdK hlen (fun d hd => of_keyD (hk d hd)) fun ys hm => sortable_key fun d hd => hk d ((hm d).mp hd)
      exact .inl ⟨B', v', x', ds', r1, r2, ri, r3, r4, fun a L h1 h2 h3 h4 => .inl (r5 a L h1 h2 h3 h4)⟩
    · obtain ⟨B', v', x', ds', r1, r2, ri, r3, r4, r5⟩ := main (Ps.famT X.prog X.w) ktD famdT hlen (fun d hd => of_tkeyD (hk d hd)) fun ys hm => sortable_tkey fun d hd => hk d ((hm d).mp hd)
      exact .inr ⟨B', v', x', ds', r1, r2, ri, r3, r4, fun a L h1 h2 h3 h4 => .inr (r5 a L h1 h2 h3 h4)⟩
theorem lset_im {v : V} {H : Hp} {Q : VK} (h : rFn X.K (f1D .lset) v H Q) : rSetA X [v] H fun u H2 => rLenA X [u] H2 Q := by
  obtain ⟨B, x, w, tr, hx, e, q⟩ := h
  obtain ⟨ds, hi, e⟩ : ∃ ds, items x = some ds ∧ (setD ds).map (fun ys => Vl.d (.int ys.length)) = some w := by
    cases x with
    | list ds => exact ⟨ds, rfl, e⟩
    | tuple ds => exact ⟨ds, rfl, e⟩
    | _ => cases e
  ·
    obtain ⟨ys, e1, rfl⟩ := Option.map_eq_some_iff.mp e
    obtain ⟨hok, e2⟩ := dec2 (show (if setOk ds = true then some (usortD ds) else none) = some ys from e1)
    subst e2
    obtain ⟨hkind, kin⟩ := setOk_of hok
    have main : ∀ {α : Type} [DecidableEq α] (Φ : Ps.Fam X.prog X.w α) (enc : α → D) (F : FamD X Φ enc) (hlen : ds.length < Φ.cap) (hk : ∀ d ∈ ds, ∃ k, enc k = d), rSetD X Φ enc [v] H fun u H2 => rLenD X Φ [u] H2 Q := by
      intro α _ Φ enc F hlen hk
      refine ⟨B, v, x, ds, rfl, hx, hi, hk, hlen, fun a L hn ht hm nd => ⟨a, L, rfl, upd_same, ?_⟩⟩
      have nd2 : (L.map fun p => enc p.2).Nodup := by
        rw [show (L.map fun p => enc p.2) = (L.map (·.2)).map enc by rw [List.map_map]; rfl]
        exact List.pairwise_map.mpr (nd.imp fun {a b} z e => z (F.inj a b e))
      have pm : (L.map fun p => enc p.2).Perm (usortD ds) := (List.perm_ext_iff_of_nodup nd2 (nodup_up (usort_up kin))).mpr fun z => (hm z).trans (mem_usort kin z).symm
      have el : L.length = (usortD ds).length := by rw [← pm.length_eq, List.length_map]
      rw [el]
      exact q _ _ (growN hn) (.int _)
    rcases hkind with ⟨hlen, hk⟩ | ⟨hlen, hk⟩
    · obtain ⟨B', v', x', ds', r1, r2, ri, r3, r4, r5⟩ := main (Ps.famK X.prog X.w) kD famdK hlen (fun d hd => of_keyD (hk d hd))
      exact .inl ⟨B', v', x', ds', r1, r2, ri, r3, r4, fun a L h1 h2 h3 h4 => .inl (r5 a L h1 h2 h3 h4)⟩
    · obtain ⟨B', v', x', ds', r1, r2, ri, r3, r4, r5⟩ := main (Ps.famT X.prog X.w) ktD famdT hlen (fun d hd => of_tkeyD (hk d hd))
      exact .inr ⟨B', v', x', ds', r1, r2, ri, r3, r4, fun a L h1 h2 h3 h4 => .inr (r5 a L h1 h2 h3 h4)⟩
theorem f1_nr {f : F1} (x : D) (w : Vl) (h : f1D f x = some w) : NoRf w := fun n hn => by
  subst hn
  revert h
  cases f <;> cases x <;> simp [f1D] <;> (try split) <;> (try simp)
  all_goals (intro h; obtain ⟨ns, _, h⟩ := Option.bind_eq_some_iff.mp h; cases ns <;> cases h)
theorem pe_sset {e : Expr} {fa : Ev → Sto → Option (D × Sto)} {p p2 pos pos2 : Pos} (hc : X.calm = true) (hu : X.A.units + 64 < cLine) (hg : Gl X "sorted") (hm : X.mg "sorted" = none) (hg2 : Gl X "set") (hm2 : X.mg "set" = none) (ha : PE X e (SemB X.K fa))
    (he : starEach [e] X.env = [(false, eval e X.env)]) : PE X (.Call (.Name "sorted" p) [.Call (.Name "set" p2) [e] [] pos2] [] pos) (SemE X.K fun env st => bnd (fa env st) fun x s => ret (f1D .sset x) s) := by
  have hs : starEach [e] X.env = (false, eval e X.env) :: starEach [] X.env := he
  have pa : PA X [e] (tCons (SemB X.K fa) tNil) := pa_cons ha pa_nil hs
  refine peImp (pe_callB (cr_srtA hc hu) hg hm (by decide +kernel) (pa_cons (pe_callTy (cr_setA hc hu) hg2 hm2 (by decide +kernel) pa (by decide +kernel) (by decide +kernel) hs rfl) pa_nil) (by decide +kernel) (by decide +kernel)) fun σ H Q h => ?_
  obtain ⟨M, U, st, env, x, s, er, e1, k⟩ := sem_fn (f := f1D .sset) f1_nr σ H Q h
  exact ⟨M, U, st, env, x, s, er, e1, fun v H' M' s1 so r => sset_im (k v H' M' s1 so r)⟩
theorem pe_lset {e : Expr} {fa : Ev → Sto → Option (D × Sto)} {p p2 pos pos2 : Pos} (hc : X.calm = true) (hu : X.A.units + 64 < cLine) (hg : Gl X "len") (hm : X.mg "len" = none) (hg2 : Gl X "set") (hm2 : X.mg "set" = none) (ha : PE X e (SemB X.K fa))
    (he : starEach [e] X.env = [(false, eval e X.env)]) : PE X (.Call (.Name "len" p) [.Call (.Name "set" p2) [e] [] pos2] [] pos) (SemE X.K fun env st => bnd (fa env st) fun x s => ret (f1D .lset x) s) := by
  have hs : starEach [e] X.env = (false, eval e X.env) :: starEach [] X.env := he
  have pa : PA X [e] (tCons (SemB X.K fa) tNil) := pa_cons ha pa_nil hs
  refine peImp (pe_callB cr_lenA hg hm PySem.boot_len (pa_cons (pe_callTy (cr_setA hc hu) hg2 hm2 (by decide +kernel) pa (by decide +kernel) (by decide +kernel) hs rfl) pa_nil) (by decide +kernel) (by decide +kernel)) fun σ H Q h => ?_
  obtain ⟨M, U, st, env, x, s, er, e1, k⟩ := sem_fn (f := f1D .lset) f1_nr σ H Q h
  exact ⟨M, U, st, env, x, s, er, e1, fun v H' M' s1 so r => lset_im (k v H' M' s1 so r)⟩
end
end Pi

end
section
set_option Elab.async false
set_option linter.all false
set_option maxRecDepth 100000
set_option maxHeartbeats 4000000
namespace Pi
open PySem PySem.Spec PyProof.Rows L2
theorem keq_kD (j k : Key) : keq (kD j) (kD k) = decide (j = k) := by
  rcases j with i | x <;> rcases k with i' | x'
  · show (i == i') = _
    by_cases h : i = i'
    · subst h; simp
    · rw [decide_eq_false fun z => h (by cases z; rfl)]; simpa using h
  · exact (decide_eq_false fun z => (by cases z)).symm
  · exact (decide_eq_false fun z => (by cases z)).symm
  · show (x == x') = _
    by_cases h : x = x'
    · subst h; simp
    · rw [decide_eq_false fun z => h (by cases z; rfl)]; simpa using h
theorem keqs_kD : ∀ j k : List Key, keqs (j.map kD) (k.map kD) = decide (j = k)
  | [], [] => rfl
  | [], _ :: _ => rfl
  | _ :: _, [] => rfl
  | a :: j, b :: k => by
    show (keq (kD a) (kD b) && keqs (j.map kD) (k.map kD)) = _
    rw [keq_kD, keqs_kD j k]
    by_cases h : a = b
    · subst h
      by_cases h2 : j = k
      · subst h2; simp
      · simp [h2]
    · simp [h]
theorem keyEq_kD (j k : Key) : keyEq (kD j) (kD k) = decide (j = k) := by
  rw [← keq_kD]
  rcases j with i | x <;> rcases k with i' | x' <;> rfl
theorem keyEq_kt (j k : List Key) : keyEq (ktD j) (ktD k) = decide (j = k) := keqs_kD j k
section
variable {K : PySem.W.Frag} {B : Addr → Prop} {H : Hp}
def RpO (K : PySem.W.Frag) (B : Addr → Prop) (H : Hp) : Option V → Option D → Prop
  | some v, some d => Rp K B H v d
  | none, none => True
  | _, _ => False
theorem look_k (k : Key) : ∀ {kvs : List (Key × V)} {ds : List (D × D)}, RpKv K B H kvs ds → RpO K B H (valV kvs k) (dlook (kD k) ds)
  | _, _, .nil => trivial
  | _, _, .cons (k := j) (v := v) h r => by
    unfold dlook
    rw [keyEq_kD]
    by_cases e : j = k
    · rw [valV_pos (p := (j, v)) e, if_pos (decide_eq_true e)]; exact h
    · rw [valV_neg (p := (j, v)) e, decide_eq_false e]; exact look_k k r
theorem look_t (k : List Key) : ∀ {kvs : List (List Key × V)} {ds : List (D × D)}, RpTv K B H kvs ds → RpO K B H (valV kvs k) (dlook (ktD k) ds)
  | _, _, .nil => trivial
  | _, _, .cons (k := j) (v := v) h r => by
    unfold dlook
    rw [show keyEq (.tuple (j.map kD)) (ktD k) = decide (j = k) from keyEq_kt j k]
    by_cases e : j = k
    · rw [valV_pos (p := (j, v)) e, if_pos (decide_eq_true e)]; exact h
    · rw [valV_neg (p := (j, v)) e, decide_eq_false e]; exact look_t k r
theorem RpKv.app : ∀ {kvs us : List (Key × V)} {ds es : List (D × D)}, RpKv K B H kvs ds → RpKv K B H us es → RpKv K B H (kvs ++ us) (ds ++ es)
  | _, _, _, _, .nil, s => s
  | _, _, _, _, .cons h r, s => .cons h (r.app s)
theorem RpTv.app : ∀ {kvs us : List (List Key × V)} {ds es : List (D × D)}, RpTv K B H kvs ds → RpTv K B H us es → RpTv K B H (kvs ++ us) (ds ++ es)
  | _, _, _, _, .nil, s => s
  | _, _, _, _, .cons h r, s => .cons h (r.app s)
theorem any_k (k : Key) : ∀ {kvs : List (Key × V)} {ds : List (D × D)}, RpKv K B H kvs ds → (ds.any fun p => keyEq p.1 (kD k)) = kvs.any fun kv => decide (kv.1 = k)
  | _, _, .nil => rfl
  | _, _, .cons h r => by rw [List.any_cons, List.any_cons, any_k k r, keyEq_kD]
theorem map_k {v : V} {d : D} (k : Key) (h : Rp K B H v d) : ∀ {kvs : List (Key × V)} {ds : List (D × D)}, RpKv K B H kvs ds → RpKv K B H (kvs.map fun kv => if kv.1 = k then (kv.1, v) else kv) (ds.map fun p => if keyEq p.1 (kD k) then (p.1, d) else p)
  | _, _, .nil => .nil
  | _, _, .cons (k := j) (v := u) (d := e) g r => by
    rw [List.map_cons, List.map_cons, keyEq_kD]
    by_cases q : j = k
    · rw [if_pos q, if_pos (decide_eq_true q)]; exact .cons h (map_k k h r)
    · rw [if_neg q, if_neg (by simpa using q)]; exact .cons g (map_k k h r)
theorem put_k {v : V} {d : D} (k : Key) {kvs : List (Key × V)} {ds : List (D × D)} (r : RpKv K B H kvs ds) (h : Rp K B H v d) : RpKv K B H (putK kvs k v) (dput (kD k) d ds) := by
  unfold putK dput
  rw [any_k k r]
  by_cases q : (kvs.any fun kv => decide (kv.1 = k)) = true
  · rw [if_pos q, if_pos q]; exact map_k k h r
  · rw [if_neg q, if_neg q]; exact r.app (.cons h .nil)
theorem RpKv.len : ∀ {kvs : List (Key × V)} {ds : List (D × D)}, RpKv K B H kvs ds → kvs.length = ds.length
  | _, _, .nil => rfl
  | _, _, .cons _ r => by rw [List.length_cons, List.length_cons, r.len]
theorem RpTv.len : ∀ {kvs : List (List Key × V)} {ds : List (D × D)}, RpTv K B H kvs ds → kvs.length = ds.length
  | _, _, .nil => rfl
  | _, _, .cons _ r => by rw [List.length_cons, List.length_cons, r.len]
theorem no_mark {kvs : List (Key × V)} {ds es : List (D × D)} (r : RpKv K B H kvs ((.tuple [], .none) :: es)) : False := by
  cases kvs with
  | nil => cases r
  | cons p kvs =>
    obtain ⟨k, v⟩ := p
    rcases k with i | x <;> cases r
theorem dents_k {k : D} {kvs : List (Key × V)} {ds es : List (D × D)} (r : RpKv K B H kvs ds) (e : dents k ds = some es) : es = ds ∧ keyD k = true := by
  unfold dents at e
  split at e
  · exact (no_mark (ds := es) r).elim
  · cases e
  · split at e
    · cases e; exact ⟨rfl, ‹_›⟩
    · cases e
theorem dents_t {k : D} {ds es : List (D × D)} (e : dents k ((.tuple [], .none) :: ds) = some es) : es = ds ∧ tkeyD k = true := by
  obtain ⟨h, e⟩ := dec2 (show (if tkeyD k = true then some ds else none) = some es from e)
  exact ⟨e.symm, h⟩
end
def DG (K : PySem.W.Frag) (H : Hp) (a : Addr) (y : V) (o : Option V) : Prop :=
  (∃ kvs k, Rd H a (.dK kvs) ∧ y = kV k ∧ o = valV kvs k) ∨ ∃ kvs k b, Rd H a (.dT kvs) ∧ y = .ref b ∧ SqT K H b (k.map kV) ∧ o = valV kvs k
section
variable {X : Cx} {pins : List (Addr × Obj)} {σ : L2.St} {H : Hp} {s : Shared} {a : Addr} {y v d : V} {u r : Value} {o : Option V} {A : Around} {E : Value → Shared → Prop}
theorem key_at (I : Inv X pins σ H s) {b : Addr} {k : List Key} (h : SqT X.K H b (k.map kV)) : (tupleKind (mixKind X.prog X.w)).is s.heap k b := by
  obtain ⟨its, rv, ⟨ob, ho, hc, n, hd⟩, _⟩ := I.tuple h
  exact ⟨ob, its.toArray, n, ho, hc, hd, by simpa using items_are (P := X.prog) (w := X.w) rv⟩
theorem dg_isD (g : DG X.K H a y o) : IsD H a := by
  rcases g with ⟨kvs, k, e, _⟩ | ⟨kvs, k, b, e, _⟩
  · exact .inl ⟨kvs, e⟩
  · exact .inr ⟨kvs, e⟩
theorem dg_getItem {Q : Value → Shared → Prop} (hu : A.units + 1 < cLine) (I : Inv X pins σ H s) (g : DG X.K H a y (some v)) (ry : RelV y u) (h : ∀ w' s', Inv X pins σ H s' → RelV v w' → Q w' s') :
    wpAny (model X.prog X.w) A (getItem (.ref a) u) Q E s := by
  rcases g with ⟨kvs, k, e, ey, l⟩ | ⟨kvs, k, b, e, ey, eb, l⟩
  · exact d_getItem hu I (.inl ⟨kvs, k, e, ey, l⟩) ry h
  · subst ey
    cases (show u = Value.ref b from ry)
    obtain ⟨z, hd, xs, rel, dd⟩ := dt_rd I.hok e
    obtain ⟨w', hw, rw'⟩ := RelO.some_of (v := v) (o := (atKey xs k).map (·.2)) (by rw [l]; exact rel.val k)
    obtain ⟨p, hp, hp2⟩ := Option.map_eq_some_iff.mp hw
    refine wpAny_getItem_heap (tupleKind_room_in1 hu) (key_at I eb) dd hp ?_
    rw [hp2]
    exact h w' _ (I.tok _) rw'
theorem dg_in {Q : Value → Shared → Prop} (hu : A.units + 1 < cLine) (I : Inv X pins σ H s) (g : DG X.K H a y o) (ry : RelV y u) (h : ∀ s', Inv X pins σ H s' → Q (.bool o.isSome) s') :
    wpAny (model X.prog X.w) A (compareOp .In u (.ref a)) Q E s := by
  rcases g with ⟨kvs, k, e, ey, l⟩ | ⟨kvs, k, b, e, ey, eb, l⟩
  · exact d_in hu I (.inl ⟨kvs, k, e, ey, l⟩) ry h
  · subst ey
    cases (show u = Value.ref b from ry)
    obtain ⟨z, hd, xs, rel, dd⟩ := dt_rd I.hok e
    refine wpAny_in_heap (tupleKind_room_in1 hu) (key_at I eb) hd dd ?_
    have q := (rel.val k).isSome_eq
    rw [Option.isSome_map] at q
    rw [← q, ← l]
    exact h _ (I.tok _)
theorem dg_notIn {Q : Value → Shared → Prop} (hu : A.units + 1 < cLine) (I : Inv X pins σ H s) (g : DG X.K H a y o) (ry : RelV y u) (h : ∀ s', Inv X pins σ H s' → Q (.bool (!o.isSome)) s') :
    wpAny (model X.prog X.w) A (compareOp .NotIn u (.ref a)) Q E s := by
  rcases g with ⟨kvs, k, e, ey, l⟩ | ⟨kvs, k, b, e, ey, eb, l⟩
  · exact d_notIn hu I (.inl ⟨kvs, k, e, ey, l⟩) ry h
  · subst ey
    cases (show u = Value.ref b from ry)
    obtain ⟨z, hd, xs, rel, dd⟩ := dt_rd I.hok e
    refine wpAny_notIn_heap (tupleKind_room_in1 hu) (key_at I eb) hd dd ?_
    have q := (rel.val k).isSome_eq
    rw [Option.isSome_map] at q
    rw [← q, ← l]
    exact h _ (I.tok _)
theorem dg_of {K : PySem.W.Frag} {B : Addr → Prop} {H : Hp} {x y : V} {ds : List (D × D)} {k : D} {o : Option D} (hx : RpW K B H x (.dict ds)) (hy : RpW K B H y k) (e : dget ds k = some o) : ∃ a o', x = .ref a ∧ DG K H a y o' ∧ RpO K B H o' o := by
  obtain ⟨es, e1, e2⟩ := Option.map_eq_some_iff.mp (show (dents k ds).map (dlook k) = some o from e)
  have onK : ∀ a kvs, x = .ref a → Rd H a (.dK kvs) → RpKv K B H kvs ds → ∃ a o', x = .ref a ∧ DG K H a y o' ∧ RpO K B H o' o := fun a kvs ex hr r => by
    obtain ⟨rfl, hk⟩ := dents_k r e1
    obtain ⟨k', rfl⟩ := of_keyD hk
    have ey : y = kV k' := by
      rcases k' with i | z
      · exact hy.int
      · exact hy.str
    refine ⟨a, valV kvs k', ex, .inl ⟨kvs, k', hr, ey, rfl⟩, ?_⟩
    rw [← e2]
    exact look_k k' r
  have onT : ∀ a kvs es', x = .ref a → ds = (.tuple [], .none) :: es' → Rd H a (.dT kvs) → RpTv K B H kvs es' → ∃ a o', x = .ref a ∧ DG K H a y o' ∧ RpO K B H o' o := fun a kvs es' ex ed hr r => by
    subst ed
    obtain ⟨rfl, hk⟩ := dents_t e1
    obtain ⟨k', rfl⟩ := of_tkeyD hk
    obtain ⟨b, vs, rfl, hb, rb, _⟩ := hy.tuple
    rw [rp_kDs rb] at hb
    refine ⟨a, valV kvs k', ex, .inr ⟨kvs, k', b, hr, rfl, hb, rfl⟩, ?_⟩
    rw [← e2]
    exact look_t k' r
  rcases hx with hx | ⟨a, rfl, hx⟩
  · cases hx with
    | dK n h r => exact onK _ _ rfl h r
    | dT n h r => exact onT _ _ _ rfl rfl h r
    | exn _ _ _ _ _ _ => cases e1
  · rcases hx with ⟨kvs, h, r⟩ | ⟨kvs, es', ed, h, r⟩
    · exact onK a kvs rfl (.inl h) r
    · exact onT a kvs es' rfl ed (.inl h) r
end
end Pi

end
section
set_option Elab.async false
set_option linter.all false
set_option maxRecDepth 100000
set_option maxHeartbeats 1000000
namespace Pi
open PySem PySem.Spec PyProof.Rows L2
section
variable {X : Cx}
theorem isSome_rpo {K : PySem.W.Frag} {B : Addr → Prop} {H : Hp} {o' : Option V} {o : Option D} (h : RpO K B H o' o) : o'.isSome = o.isSome := by
  cases o' <;> cases o <;> first | rfl | exact h.elim
theorem op_cmpP {op : CmpOp} {c : Cop} (h : op = (match c with | .eq => .Eq | .ne => .NotEq | .lt => .Lt | .le => .LtE | .gt => .Gt | .ge => .GtE | .isin => .In | .notin => .NotIn)) (hu : X.A.units + 64 < cLine) :
    OpR X (compareOp op) (rOp X.K (bV (cmpD c))) := by
  subst h
  have inn : ∀ {x y : D} {b : Bool}, inD x y = some b → (∃ ys, y = .list ys ∧ okD x = true ∧ PyData.plainAll ys = true ∧ b = ys.any fun y => PyData.eqv y x) ∨ (∃ ys, y = .tuple ys ∧ okD x = true ∧ PyData.plainAll ys = true ∧ b = ys.any fun y => PyData.eqv y x) ∨
      (∃ z w, y = .str z ∧ x = .str w ∧ b = !(Builtin.Str.occurrences z w 0 z.length 1).isEmpty) ∨ ∃ ds o, y = .dict ds ∧ dget ds x = some o ∧ b = o.isSome := fun {x y b} e => by
    unfold inD at e
    split at e
    · obtain ⟨h1, h2⟩ := dec2 e
      rw [Bool.and_eq_true] at h1
      exact .inl ⟨_, rfl, h1.1, h1.2, h2.symm⟩
    · obtain ⟨h1, h2⟩ := dec2 e
      rw [Bool.and_eq_true] at h1
      exact .inr (.inl ⟨_, rfl, h1.1, h1.2, h2.symm⟩)
    · split at e
      · cases e; exact .inr (.inr (.inl ⟨_, _, rfl, rfl, rfl⟩))
      · cases e
    · obtain ⟨o, e1, e2⟩ := Option.map_eq_some_iff.mp e
      exact .inr (.inr (.inr ⟨_, o, rfl, e1, e2.symm⟩))
    · cases e
  cases c with
  | eq =>
    refine op_dataP (fun x y b e => ?_) (fun {s a c da dc as cs b Q} r1 r2 e hu q => ?_) hu
    · obtain ⟨h1, _⟩ := dec2 (show (if (okD x && okD y) = true then some (PyData.eqv x y) else none) = some b from e)
      rw [Bool.and_eq_true] at h1; exact h1
    · obtain ⟨h1, h2⟩ := dec2 (show (if (okD da && okD dc) = true then some (PyData.eqv da dc) else none) = some b from e)
      rw [Bool.and_eq_true] at h1
      subst h2
      exact SeqAt.eq_plain r1 r2 (okD_of h1.1).1 (okD_of h1.2).1 hu q
  | ne =>
    refine op_dataP (fun x y b e => ?_) (fun {s a c da dc as cs b Q} r1 r2 e hu q => ?_) hu
    · obtain ⟨h1, _⟩ := dec2 (show (if (okD x && okD y) = true then some (!PyData.eqv x y) else none) = some b from e)
      rw [Bool.and_eq_true] at h1; exact h1
    · obtain ⟨h1, h2⟩ := dec2 (show (if (okD da && okD dc) = true then some (!PyData.eqv da dc) else none) = some b from e)
      rw [Bool.and_eq_true] at h1
      subst h2
      exact SeqAt.ne_plain r1 r2 (okD_of h1.1).1 (okD_of h1.2).1 hu q
  | lt =>
    refine op_dataP (fun x y b e => ?_) (fun {s a c da dc as cs b Q} r1 r2 e hu q => ?_) hu
    · obtain ⟨h1, h2, _⟩ := cond4 (show (if (okD x && okD y && PySem.W.alike x y && !isNone x) = true then some (PySem.W.dataLt x y) else none) = some b from e)
      exact ⟨h1, h2⟩
    · obtain ⟨h1, h2, h3, h4, h5⟩ := cond4 (show (if (okD da && okD dc && PySem.W.alike da dc && !isNone da) = true then some (PySem.W.dataLt da dc) else none) = some b from e)
      subst h5
      exact PySem.W.lt_data r1 r2 h3 (nn (notT h4)) hu q
  | le =>
    refine op_dataP (fun x y b e => ?_) (fun {s a c da dc as cs b Q} r1 r2 e hu q => ?_) hu
    · obtain ⟨h1, h2, _⟩ := cond4 (show (if (okD x && okD y && PySem.W.alike x y && !isNone x) = true then some (!PySem.W.dataLt y x) else none) = some b from e)
      exact ⟨h1, h2⟩
    · obtain ⟨h1, h2, h3, h4, h5⟩ := cond4 (show (if (okD da && okD dc && PySem.W.alike da dc && !isNone da) = true then some (!PySem.W.dataLt dc da) else none) = some b from e)
      subst h5
      exact PySem.W.le_data r1 r2 h3 (nn (notT h4)) hu q
  | gt =>
    refine op_dataP (fun x y b e => ?_) (fun {s a c da dc as cs b Q} r1 r2 e hu q => ?_) hu
    · obtain ⟨h1, h2, _⟩ := cond4 (show (if (okD x && okD y && PySem.W.alike x y && !isNone x) = true then some (PySem.W.dataLt y x) else none) = some b from e)
      exact ⟨h1, h2⟩
    · obtain ⟨h1, h2, h3, h4, h5⟩ := cond4 (show (if (okD da && okD dc && PySem.W.alike da dc && !isNone da) = true then some (PySem.W.dataLt dc da) else none) = some b from e)
      subst h5
      exact PySem.W.gt_data r1 r2 h3 (nn (notT h4)) hu q
  | ge =>
    refine op_dataP (fun x y b e => ?_) (fun {s a c da dc as cs b Q} r1 r2 e hu q => ?_) hu
    · obtain ⟨h1, h2, _⟩ := cond4 (show (if (okD x && okD y && PySem.W.alike x y && !isNone x) = true then some (!PySem.W.dataLt x y) else none) = some b from e)
      exact ⟨h1, h2⟩
    · obtain ⟨h1, h2, h3, h4, h5⟩ := cond4 (show (if (okD da && okD dc && PySem.W.alike da dc && !isNone da) = true then some (!PySem.W.dataLt da dc) else none) = some b from e)
      subst h5
      exact PySem.W.ge_data r1 r2 h3 (nn (notT h4)) hu q
  | isin =>
    intro pins s σ H v u vv uu Q I rx ry ⟨B, x, y, w, tr, hx, hy, e, q⟩
    obtain ⟨k, e1, e⟩ := Option.map_eq_some_iff.mp e
    cases e
    rcases inn e1 with ⟨ys, rfl, o, p, rfl⟩ | ⟨ys, rfl, o, p, rfl⟩ | ⟨z, w, rfl, rfl, rfl⟩ | ⟨ds, o, rfl, eo, rfl⟩
    · obtain ⟨as, r1⟩ := Dp.reads I x v vv (hx.dp (okD_of o).1) rx
      obtain ⟨bs, r2⟩ := Dp.reads I (.list ys) u uu (hy.dp (by simpa [PyData.plain] using p)) ry
      have h1 := (okD_of o).2
      exact SeqAt.in_list_data r2 r1 p (okD_of o).1 (by omega) ⟨.bl _, H, I, rfl, q _ _ grow0 (.bl _)⟩
    · obtain ⟨as, r1⟩ := Dp.reads I x v vv (hx.dp (okD_of o).1) rx
      obtain ⟨bs, r2⟩ := Dp.reads I (.tuple ys) u uu (hy.dp (by simpa [PyData.plain] using p)) ry
      have h1 := (okD_of o).2
      exact SeqAt.in_tuple_data r2 r1 p (okD_of o).1 (by omega) ⟨.bl _, H, I, rfl, q _ _ grow0 (.bl _)⟩
    · cases hx.str; cases hy.str
      exact op_in_str pins s σ H _ _ _ _ Q I rx ry ⟨_, _, rfl, rfl, q _ _ grow0 (.bl _)⟩
    · obtain ⟨a, o', rfl, g, ro⟩ := dg_of hy hx eo
      obtain rfl : uu = Value.ref a := ry
      refine dg_in (by omega) I g rx fun s' I' => ⟨.bl o'.isSome, H, I', rfl, ?_⟩
      rw [isSome_rpo ro]
      exact q _ _ grow0 (.bl _)
  | notin =>
    intro pins s σ H v u vv uu Q I rx ry ⟨B, x, y, w, tr, hx, hy, e, q⟩
    obtain ⟨k, e1, e⟩ := Option.map_eq_some_iff.mp e
    cases e
    obtain ⟨k', e2, rfl⟩ := Option.map_eq_some_iff.mp (show (inD x y).map (!·) = some k from e1)
    rcases inn e2 with ⟨ys, rfl, o, p, rfl⟩ | ⟨ys, rfl, o, p, rfl⟩ | ⟨z, w, rfl, rfl, rfl⟩ | ⟨ds, o, rfl, eo, rfl⟩
    · obtain ⟨as, r1⟩ := Dp.reads I x v vv (hx.dp (okD_of o).1) rx
      obtain ⟨bs, r2⟩ := Dp.reads I (.list ys) u uu (hy.dp (by simpa [PyData.plain] using p)) ry
      have h1 := (okD_of o).2
      exact SeqAt.notIn_list_data r2 r1 p (okD_of o).1 (by omega) ⟨.bl _, H, I, rfl, q _ _ grow0 (.bl _)⟩
    · obtain ⟨as, r1⟩ := Dp.reads I x v vv (hx.dp (okD_of o).1) rx
      obtain ⟨bs, r2⟩ := Dp.reads I (.tuple ys) u uu (hy.dp (by simpa [PyData.plain] using p)) ry
      have h1 := (okD_of o).2
      exact SeqAt.notIn_tuple_data r2 r1 p (okD_of o).1 (by omega) ⟨.bl _, H, I, rfl, q _ _ grow0 (.bl _)⟩
    · cases hx.str; cases hy.str
      exact op_notin_str pins s σ H _ _ _ _ Q I rx ry ⟨_, _, rfl, rfl, q _ _ grow0 (.bl _)⟩
    · obtain ⟨a, o', rfl, g, ro⟩ := dg_of hy hx eo
      obtain rfl : uu = Value.ref a := ry
      refine dg_notIn (by omega) I g rx fun s' I' => ⟨.bl (!o'.isSome), H, I', rfl, ?_⟩
      rw [isSome_rpo ro]
      exact q _ _ grow0 (.bl _)
end
end Pi

end
section
set_option Elab.async false
set_option linter.all false
set_option maxRecDepth 100000
set_option maxHeartbeats 1000000
namespace Pi
open PySem PySem.Spec PyProof.Rows L2
section
variable {X : Cx}
def rC1 (K : PySem.W.Frag) (f : D → Option Vl) : List V → Hp → VK → Prop := fun vs H Q => ∃ v, vs = [v] ∧ rFn K f v H Q
def rC2 (K : PySem.W.Frag) (f : D → D → Option Vl) : List V → Hp → VK → Prop := fun vs H Q => ∃ v u, vs = [v, u] ∧ rOp K f v u H Q
section
variable {K : PySem.W.Frag} {B : Addr → Prop} {H : Hp} {Q : VK}
theorem rp_ints : ∀ {vs : List V} {xs : List D} {ns : List Int}, RpAll K B H vs xs → intsD xs = some ns → vs = ns.map V.int
  | _, _, _, .nil, e => by cases e; rfl
  | _, _, _, .cons h r, e => by
    cases h with
    | int i =>
      obtain ⟨ms, e1, rfl⟩ := Option.map_eq_some_iff.mp (show (intsD _).map (i :: ·) = some _ from e)
      rw [rp_ints r e1]; rfl
    | non => cases e
    | bl b => cases e
    | str b => cases e
    | lst a b => cases e
    | tup a b => cases e
    | dK a b c => cases e
    | dT a b c => cases e
    | exn a b c d g k => cases e
theorem rp_bools : ∀ {vs : List V} {xs : List D} {ns : List Bool}, RpAll K B H vs xs → boolsD xs = some ns → vs = ns.map V.bl
  | _, _, _, .nil, e => by cases e; rfl
  | _, _, _, .cons h r, e => by
    cases h with
    | bl i =>
      obtain ⟨ms, e1, rfl⟩ := Option.map_eq_some_iff.mp (show (boolsD _).map (i :: ·) = some _ from e)
      rw [rp_bools r e1]; rfl
    | non => cases e
    | int b => cases e
    | str b => cases e
    | lst a b => cases e
    | tup a b => cases e
    | dK a b c => cases e
    | dT a b c => cases e
    | exn a b c d g k => cases e
end
theorem maxI_ge : ∀ (r : List Int) (m : Int), m ≤ maxI m r ∧ (∀ y, y ∈ r → y ≤ maxI m r) ∧ (maxI m r = m ∨ maxI m r ∈ r)
  | [], m => ⟨Int.le_refl m, by simp, Or.inl rfl⟩
  | x :: r, m => by
    have e : maxI m (x :: r) = maxI (if x > m then x else m) r := rfl
    rw [e]
    by_cases h : x > m
    · rw [if_pos h]
      obtain ⟨h1, h2, h3⟩ := maxI_ge r x
      refine ⟨by omega, fun y hy => ?_, Or.inr ?_⟩
      · rcases List.mem_cons.mp hy with e | e
        · omega
        · exact h2 y e
      · rcases h3 with e | e
        · rw [e]; exact List.mem_cons_self
        · exact List.mem_cons_of_mem _ e
    · rw [if_neg h]
      obtain ⟨h1, h2, h3⟩ := maxI_ge r m
      refine ⟨h1, fun y hy => ?_, ?_⟩
      · rcases List.mem_cons.mp hy with e | e
        · omega
        · exact h2 y e
      · rcases h3 with e | e
        · exact Or.inl e
        · exact Or.inr (List.mem_cons_of_mem _ e)
theorem minI_le : ∀ (r : List Int) (m : Int), minI m r ≤ m ∧ (∀ y, y ∈ r → minI m r ≤ y) ∧ (minI m r = m ∨ minI m r ∈ r)
  | [], m => ⟨Int.le_refl m, by simp, Or.inl rfl⟩
  | x :: r, m => by
    have e : minI m (x :: r) = minI (if x < m then x else m) r := rfl
    rw [e]
    by_cases h : x < m
    · rw [if_pos h]
      obtain ⟨h1, h2, h3⟩ := minI_le r x
      refine ⟨by omega, fun y hy => ?_, Or.inr ?_⟩
      · rcases List.mem_cons.mp hy with e | e
        · omega
        · exact h2 y e
      · rcases h3 with e | e
        · rw [e]; exact List.mem_cons_self
        · exact List.mem_cons_of_mem _ e
    · rw [if_neg h]
      obtain ⟨h1, h2, h3⟩ := minI_le r m
      refine ⟨h1, fun y hy => ?_, ?_⟩
      · rcases List.mem_cons.mp hy with e | e
        · omega
        · exact h2 y e
      · rcases h3 with e | e
        · exact Or.inl e
        · exact Or.inr (List.mem_cons_of_mem _ e)
theorem dec2' {p : Prop} [Decidable p] {α : Type} {x : Option α} {y : α} (h : (if p then x else none) = some y) : p ∧ x = some y := by
  by_cases c : p
  · rw [if_pos c] at h; exact ⟨c, h⟩
  · rw [if_neg c] at h; cases h
theorem dlen_k {K : PySem.W.Frag} {B : Addr → Prop} {H : Hp} {kvs : List (Key × V)} {ds : List (D × D)} (r : RpKv K B H kvs ds) : dlenD ds = ds.length := by
  cases r with
  | nil => rfl
  | @cons k v vs d ds h t => rcases k with i | z <;> rfl
theorem cr_len : CallR X (.builtin "len") (rC1 X.K (f1D .len)) := by
  intro pins s σ H xs us Q I r0 ⟨v, ev, B, x, w, tr, hx, e, q⟩
  subst ev
  cases x with
  | list ds =>
    cases e
    obtain ⟨a, vs, rfl, ha, ra⟩ := hx.list
    exact call_len pins s σ H _ _ Q I r0 ⟨_, vs.length, rfl, .inl ⟨vs, ha, rfl⟩, by rw [ra.length]; exact q _ _ grow0 (.int _)⟩
  | tuple ds =>
    cases e
    obtain ⟨a, vs, rfl, ha, ra, _⟩ := hx.tuple
    exact call_len pins s σ H _ _ Q I r0 ⟨_, vs.length, rfl, .inr ⟨vs, ha, rfl⟩, by rw [ra.length]; exact q _ _ grow0 (.int _)⟩
  | str z =>
    obtain ⟨hz, e⟩ := dec2 (show (if z.length ≤ SL then some (Vl.d (.int z.length)) else none) = some w from e)
    cases e
    cases hx.str
    exact call_len pins s σ H _ _ Q I r0 ⟨_, z.length, rfl, ⟨SL_le hz, rfl⟩, q _ _ grow0 (.int _)⟩
  | none => cases e
  | bool b => cases e
  | int b => cases e
  | dict ds =>
    obtain ⟨nx, e9⟩ : isXn ds = false ∧ some (Vl.d (.int (dlenD ds))) = some w := by
      have e : (if isXn ds = true then none else some (Vl.d (.int (dlenD ds)))) = some w := e
      cases c : isXn ds with
      | true => rw [c] at e; cases e
      | false => rw [c] at e; exact ⟨rfl, e⟩
    clear e
    cases e9
    have hl : ∀ {a : Addr} {vs : List V}, Pk.IsDic H a vs → vs.length = dlenD ds → wpAny (model X.prog X.w) X.A (call (.builtin "len") [.ref a]) (fun u s' => ∃ v H', L2.Inv X pins σ H' s' ∧ RelV v u ∧ Q v H') X.xe s := fun {a vs} hd hn => by
      obtain ⟨hs, es, ep, hm, rv⟩ := Pk.dic_raw I.hok hd
      have hz : es.size = dlenD ds := by
        have h1 := rv.length
        have h2 : (es.toList.map (·.val)).length = es.size := by rw [List.length_map, Array.length_toList]
        exact h2.symm.trans (h1.symm.trans hn)
      have h63 : vs.length ≤ sizeLine := by
        rcases hd with ⟨kvs, e, rfl⟩ | ⟨kvs, e, rfl⟩
        · rw [List.length_map]; exact (dk_rd I.hok e).1
        · rw [List.length_map]; exact (dt_rd I.hok e).1
      refine Pk.len_rawF hs hm (by rw [sizeLine_eq] at h63; omega) ?_
      rw [hz]
      exact ⟨.int (dlenD ds : Nat), H, I.tok _, ⟨_, rfl⟩, q _ _ grow0 (.int _)⟩
    rcases hx with h | ⟨a, rfl, h⟩
    · cases h with
      | dK nb e r => rw [Vals.ref1 r0]; exact hl (.inl ⟨_, e, rfl⟩) (by rw [List.length_map, r.len, dlen_k r])
      | dT nb e r => rw [Vals.ref1 r0]; exact hl (.inr ⟨_, e, rfl⟩) (by rw [List.length_map]; exact r.len)
      | exn a b c d g k => cases nx
    · rcases h with ⟨kvs, e, r⟩ | ⟨kvs, es, rfl, e, r⟩
      · rw [Vals.ref1 r0]; exact hl (.inl ⟨_, .inl e, rfl⟩) (by rw [List.length_map, r.len, dlen_k r])
      · rw [Vals.ref1 r0]; exact hl (.inr ⟨_, .inl e, rfl⟩) (by rw [List.length_map]; exact r.len)
theorem cr_tuple : CallR X (.type "tuple") (rC1 X.K (f1D .tuple)) := by
  intro pins s σ H xs us Q I r ⟨v, ev, B, x, w, tr, hx, e, q⟩
  subst ev
  cases x with
  | list ds =>
    cases e
    obtain ⟨a, vs, rfl, ha, ra⟩ := hx.list
    exact Pk.call_tupleK pins s σ H _ _ Q I r ⟨a, vs, rfl, .inl ⟨ha, tupEnd (fun a z => let ⟨o, e, _⟩ := tr a z; ⟨o, e⟩) ra q⟩⟩
  | tuple ds =>
    cases e
    obtain ⟨a, vs, rfl, ha, ra, wa⟩ := hx.tuple
    exact call_tuple_of pins s σ H _ _ Q I r ⟨a, vs, rfl, .inr ⟨ha, q _ _ grow0 wa⟩⟩
  | none => cases e
  | bool b => cases e
  | int b => cases e
  | str b => cases e
  | dict b => cases e
theorem rp_signs {K : PySem.W.Frag} {B : Addr → Prop} {H : Hp} : ∀ cs : List Nat, RpAll K B H (cs.map fun c => V.str ⟨#[c]⟩) (cs.map fun c => PySem.PyData.str ⟨#[c]⟩)
  | [] => .nil
  | _ :: cs => .cons (.str _) (rp_signs cs)
theorem vals_signs {z : Str} {acc : Array Value} (h : ItemsOf (SignAt z) acc z.cps.size) : Vals (z.cps.toList.map fun c => V.str ⟨#[c]⟩) acc.toList := by
  obtain ⟨h1, h2⟩ := h
  have gen : ∀ (cs : List Nat) (vs : List Value), vs.length = cs.length → (∀ (j : Nat) (v : Value), vs[j]? = some v → ∃ c u, cs[j]? = some c ∧ v = Value.str ⟨#[c]⟩ u) → Vals (cs.map fun c => V.str ⟨#[c]⟩) vs := by
    intro cs
    induction cs with
    | nil =>
      intro vs hl _
      cases vs with
      | nil => exact .nil
      | cons a b => cases hl
    | cons c cs ih =>
      intro vs hl h
      cases vs with
      | nil => cases hl
      | cons v vs =>
        obtain ⟨c', u, e1, e2⟩ := h 0 v rfl
        cases e1
        subst e2
        exact .cons ⟨u, rfl⟩ (ih vs (by simpa using hl) fun j w e => h (j + 1) w (by simpa using e))
  refine gen _ _ (by rw [Array.length_toList, h1, Array.length_toList]) fun j v e => ?_
  obtain ⟨c, u, e1, e2⟩ := h2 j v (by rw [← Array.getElem?_toList]; exact e)
  exact ⟨c, u, by rw [Array.getElem?_toList]; exact e1, e2⟩
theorem cr_list (hc : X.calm = true) : CallR X (.type "list") (rC1 X.K (f1D .list)) := by
  intro pins s σ H xs us Q I r ⟨v, ev, B, x, w, tr, hx, e, q⟩
  subst ev
  cases x with
  | list ds =>
    cases e
    obtain ⟨a, vs, rfl, ha, ra⟩ := hx.list
    exact call_list_of pins s σ H _ _ Q I r ⟨a, vs, rfl, .inl ha, fun p n => lstEnd ra q n⟩
  | tuple ds =>
    cases e
    obtain ⟨a, vs, rfl, ha, ra, wa⟩ := hx.tuple
    exact call_list_of pins s σ H _ _ Q I r ⟨a, vs, rfl, .inr ha, fun p n => lstEnd ra q n⟩
  | none => cases e
  | bool b => cases e
  | int b => cases e
  | str z =>
    obtain ⟨hz, e⟩ := dec2' (show (if z.length ≤ SL then some (Vl.fr (.list (z.cps.toList.map fun c => .str ⟨#[c]⟩))) else none) = some w from e)
    cases e
    cases hx.str
    obtain ⟨u, rfl, ru⟩ := vals1 r
    obtain ⟨t, rfl⟩ := ru
    refine call_list_str (I.ok.hd hc) z t (fun h' tk acc' c' hk hS hacc => ?_) (SL_le hz)
    have hv := vals_signs hacc
    refine ⟨.ref s.heap.objs.size, upd H s.heap.objs.size (.lst (z.cps.toList.map fun c => V.str ⟨#[c]⟩)), I.laid (t' := tk) hk (Nat.le_refl _) ⟨?_, acc'.toList, c', hv, by rw [Array.toArray_toList]; exact hS⟩, rfl, lstEnd (rp_signs _) q (I.hok.fresh (Nat.le_refl _))⟩
    rw [List.length_map, Array.length_toList]
    exact SL_le hz
  | dict b => cases e
theorem cr_int : CallR X (.type "int") (rC1 X.K (f1D .int)) := by
  intro pins s σ H xs us Q I r ⟨v, ev, B, x, w, tr, hx, e, q⟩
  subst ev
  cases x with
  | int i =>
    cases e
    cases hx.int
    exact call_int1 pins s σ H _ _ Q I r (.inl ⟨i, rfl, q _ _ grow0 (.int _)⟩)
  | bool b =>
    cases e
    cases hx.bool
    exact call_int1 pins s σ H _ _ Q I r (.inr ⟨b, rfl, q _ _ grow0 (.int _)⟩)
  | str z =>
    obtain ⟨hz, e⟩ := dec2' (show (if z.length ≤ 640 then (PySem.intText? z).map fun n => Vl.d (.int n) else none) = some w from e)
    obtain ⟨n, e1, rfl⟩ := Option.map_eq_some_iff.mp e
    cases hx.str
    exact call_int_str pins s σ H _ _ Q I r ⟨z, n, rfl, e1, hz, q _ _ grow0 (.int _)⟩
  | none => cases e
  | list b => cases e
  | tuple b => cases e
  | dict b => cases e
theorem cr_str : CallR X (.type "str") (rC1 X.K (f1D .str)) := by
  intro pins s σ H xs us Q I r ⟨v, ev, B, x, w, tr, hx, e, q⟩
  subst ev
  cases x with
  | int i =>
    obtain ⟨hz, e⟩ := dec2 (show (if i.natAbs.log2 < 1920 then some (Vl.d (.str (Str.ofString (toString i)))) else none) = some w from e)
    cases e
    cases hx.int
    exact call_str_int pins s σ H _ _ Q I r ⟨i, rfl, hz, q _ _ grow0 (.str _)⟩
  | bool b => cases e
  | none => cases e
  | list b => cases e
  | tuple b => cases e
  | str b => cases e
  | dict b => cases e
theorem insD_perm (x : D) : ∀ ys : List D, (insD x ys).Perm (x :: ys)
  | [] => List.Perm.refl _
  | y :: ys => by
    unfold insD
    split
    · exact ((insD_perm x ys).cons y).trans (List.Perm.swap x y ys)
    · exact List.Perm.refl _
theorem isortD_perm : ∀ xs : List D, (isortD xs).Perm xs
  | [] => List.Perm.refl _
  | x :: xs => (insD_perm x _).trans ((isortD_perm xs).cons x)
abbrev leS : D → D → Bool := PySem.W.dataLe false (fun x : D => x)
theorem leS_eq (x y : D) : leS x y = !PySem.W.dataLt y x := by
  show PySem.W.dataLe false (fun x : D => x) x y = _
  rw [PySem.W.dataLe_eq]; rfl
theorem leS_total : PySem.W.TotalLe leS := PySem.W.sortLe_total _ _ _
theorem insD_sorted (x : D) : ∀ ys : List D, ys.Pairwise (fun a b => leS a b = true) → (insD x ys).Pairwise (fun a b => leS a b = true)
  | [], _ => List.pairwise_singleton _ _
  | y :: ys, h => by
    obtain ⟨h1, h2⟩ := List.pairwise_cons.mp h
    unfold insD
    split
    · rename_i hlt
      refine List.pairwise_cons.mpr ⟨fun z hz => ?_, insD_sorted x ys h2⟩
      rcases List.mem_cons.mp ((insD_perm x ys).mem_iff.mp hz) with rfl | hz
      · rcases leS_total.total y z with e | e
        · exact e
        · rw [leS_eq, hlt] at e; cases e
      · exact h1 z hz
    · rename_i hlt
      have hle : leS x y = true := by rw [leS_eq]; simpa using hlt
      refine List.pairwise_cons.mpr ⟨fun z hz => ?_, h⟩
      rcases List.mem_cons.mp hz with rfl | hz
      · exact hle
      · exact leS_total.trans _ _ _ hle (h1 z hz)
theorem insD_filter (x c : D) : ∀ ys : List D, ys.Pairwise (fun a b => leS a b = true) → (insD x ys).filter (PySem.W.sameRank leS c) = (x :: ys).filter (PySem.W.sameRank leS c)
  | [], _ => rfl
  | y :: ys, h => by
    obtain ⟨h1, h2⟩ := List.pairwise_cons.mp h
    unfold insD
    split
    · rename_i hlt
      rw [List.filter_cons, insD_filter x c ys h2, List.filter_cons, List.filter_cons, List.filter_cons]
      by_cases hx : PySem.W.sameRank leS c x = true
      · by_cases hy : PySem.W.sameRank leS c y = true
        · exfalso
          unfold PySem.W.sameRank at hx hy
          rw [Bool.and_eq_true] at hx hy
          have : leS x y = true := leS_total.trans _ _ _ hx.2 hy.1
          rw [leS_eq, hlt] at this; cases this
        · simp [hx, hy]
      · simp [hx]
    · rfl
theorem isortD_sorted : ∀ xs : List D, (isortD xs).Pairwise (fun a b => leS a b = true)
  | [] => .nil
  | x :: xs => insD_sorted x _ (isortD_sorted xs)
theorem isortD_filter (c : D) : ∀ xs : List D, (isortD xs).filter (PySem.W.sameRank leS c) = xs.filter (PySem.W.sameRank leS c)
  | [] => rfl
  | x :: xs => by
    show (insD x (isortD xs)).filter _ = _
    rw [insD_filter x c _ (isortD_sorted xs), List.filter_cons, List.filter_cons, isortD_filter c xs]
theorem isortD_merge (xs : List D) : isortD xs = xs.mergeSort leS := PySem.W.sort_unique leS_total (isortD_sorted xs) fun c => isortD_filter c xs
theorem sortOk_of {xs : List D} (h : sortOk xs = true) : (∀ x ∈ xs, okD x = true) ∧ PySem.W.AllAlike xs ∧ PySem.W.Sortable xs ∧ xs.length ≤ SL := by
  unfold sortOk at h
  simp only [Bool.and_eq_true, List.all_eq_true, decide_eq_true_eq, Bool.or_eq_true] at h
  obtain ⟨⟨⟨h1, h2⟩, h3⟩, h4⟩ := h
  refine ⟨h1, fun x hx y hy => h2 x hx y hy, ?_, h4⟩
  rcases h3 with h3 | h3
  · refine .inl fun d hd => ?_
    have := h3 d hd
    cases d with
    | tuple l =>
      cases l with
      | nil => cases this
      | cons a b => exact ⟨a, b, rfl⟩
    | _ => cases this
  · refine .inr fun d hd => ?_
    have := h3 d hd
    cases d <;> first | (cases this; done) | exact ⟨fun z => (by cases z), fun _ z => (by cases z)⟩
theorem each_of {B : Addr → Prop} {K : PySem.W.Frag} {H : Hp} : ∀ {vs : List V} {us : List Value} {ds : List D}, Vals vs us → RpAll K B H vs ds → PySem.W.EachIs (fun u d => ∃ v, RelV v u ∧ Rp K B H v d) us ds
  | _, _, _, .nil, .nil => .nil
  | _, _, _, .cons r t, .cons h g => .cons ⟨_, r, h⟩ (each_of t g)
theorem of_each {B : Addr → Prop} {K : PySem.W.Frag} {H : Hp} : ∀ {us : List Value} {ds : List D}, PySem.W.EachIs (fun u d => ∃ v, RelV v u ∧ Rp K B H v d) us ds → ∃ vs, Vals vs us ∧ RpAll K B H vs ds
  | _, _, .nil => ⟨[], .nil, .nil⟩
  | _, _, .cons ⟨v, r, h⟩ t => by
    obtain ⟨vs, r1, h1⟩ := of_each t
    exact ⟨v :: vs, .cons r r1, .cons h h1⟩
theorem keys_rp {K : PySem.W.Frag} {B : Addr → Prop} {H : Hp} : ∀ (k : List Key), RpAll K B H (k.map kV) (k.map kD)
  | [] => .nil
  | .inl i :: k => .cons (.int i) (keys_rp k)
  | .inr x :: k => .cons (.str x) (keys_rp k)
theorem tupKeys_at {K : PySem.W.Frag} {B : Addr → Prop} {H : Hp} (tr : ∀ a, B a → ∃ o, H a = some o ∧ NoT o) (hb : kB = false) : ∀ {kvs : List (List Key × V)} {xs : List (List Key × Addr × Value)} {ds : List (D × D)}, KT H kvs xs → RpTv K B H kvs ds →
    RpAll K B H (xs.map fun x => V.ref x.2.1) (ds.map (·.1))
  | _, _, _, .nil, .nil => .nil
  | _, _, _, .cons h t, .cons r g => by
    refine .cons (Rp.tup (xs := _) (.inl ⟨fun z => ?_, { cls := .type "tuple", data := .fields #[] }, rfl, ?_⟩) (keys_rp _)) (tupKeys_at tr hb t g)
    · obtain ⟨o, e, n⟩ := tr _ z
      exact n _ (Option.some.inj (e.symm.trans h.2.1))
    · rw [h.2.1]
      unfold tuO looseV
      rw [hb]; rfl
theorem tup_vals : ∀ (xs : List (List Key × Addr × Value)), Vals (xs.map fun x => V.ref x.2.1) (xs.map fun x => Value.ref x.2.1)
  | [] => .nil
  | x :: xs => .cons (show RelV (.ref x.2.1) (.ref x.2.1) from rfl) (tup_vals xs)
theorem sdk_of {X : Cx} {B : Addr → Prop} {H : Hp} {P : Program} {w : World} {h : Heap} {v : V} {ds : List (D × D)} {ys : List D} (ok : HOk P w H h) (tr : ∀ a, B a → ∃ o, H a = some o ∧ NoT o) (hx : RpW X.K B H v (.dict ds)) (e : sdkD ds = some ys) :
    ∃ (ks : List D), sortD ks = some ys ∧ ∃ (a : Addr) (es : Array DictEntry) (ep : Nat) (vs : List V), v = .ref a ∧ (a == sysModules) = false ∧ h.DictRaw a es ep ∧ Vals vs (es.toList.map (·.key)) ∧ RpAll X.K B H vs ks := by
  unfold sdkD at e
  split at e
  · rename_i es0
    obtain ⟨hc, e1⟩ : (!kB && es0.all fun p => tkeyD p.1) = true ∧ sortD (es0.map (·.1)) = some ys := by
      by_cases c : (!kB && es0.all fun p => tkeyD p.1) = true
      · rw [if_pos c] at e; exact ⟨c, e⟩
      · rw [if_neg c] at e; cases e
    rw [Bool.and_eq_true, Bool.not_eq_true'] at hc
    obtain ⟨a, kvs, rfl, ha, rk⟩ : ∃ a kvs, v = .ref a ∧ Rd H a (.dT kvs) ∧ RpTv X.K B H kvs es0 := by
      rcases hx with h | ⟨a, rfl, h⟩
      · cases h with
        | dK nb e r =>
          generalize hq : ((PyData.tuple [], PyData.none) :: es0) = l at r
          cases r with
          | nil => cases hq
          | @cons k v vs d ds r t =>
            have := congrArg Prod.fst (List.cons.inj hq).1
            rcases k with i | z <;> cases this
        | dT nb e r => exact ⟨_, _, rfl, e, r⟩
      · rcases h with ⟨kvs, e, r⟩ | ⟨kvs, es, q, e, r⟩
        · generalize hq : ((PyData.tuple [], PyData.none) :: es0) = l at r
          cases r with
          | nil => cases hq
          | @cons k v vs d ds r t =>
            have := congrArg Prod.fst (List.cons.inj hq).1
            rcases k with i | z <;> cases this
        · cases q
          exact ⟨a, kvs, rfl, .inl e, r⟩
    obtain ⟨_, hs, xs, rel, o, es, ep, h1, h2, h3, h4, _⟩ := dt_rd ok ha
    refine ⟨es0.map (·.1), e1, a, es, ep, xs.map fun x => V.ref x.2.1, rfl, hs, ⟨o, h1, h2, h3⟩, ?_, tupKeys_at tr hc.1 rel rk⟩
    rw [h4, List.map_map]
    exact tup_vals xs
  · obtain ⟨ks, e0, e1⟩ := Option.bind_eq_some_iff.mp (show (dkeysD ds).bind sortD = some ys from e)
    obtain ⟨hk, e0⟩ := dec2 (show (if (ds.all fun p => keyD p.1) = true then some (ds.map (·.1)) else none) = some ks from e0)
    subst e0
    obtain ⟨a, kvs, rfl, ha, rk⟩ : ∃ a kvs, v = .ref a ∧ Rd H a (.dK kvs) ∧ RpKv X.K B H kvs ds := by
      rcases hx with h | ⟨a, rfl, h⟩
      · cases h with
        | dK nb e r => exact ⟨_, _, rfl, e, r⟩
        | dT nb e r => exact absurd hk (by simp [keyD])
        | exn a b c d g k => exact absurd hk (by simp [keyD])
      · rcases h with ⟨kvs, e, r⟩ | ⟨kvs, es, rfl, e, r⟩
        · exact ⟨a, kvs, rfl, .inl e, r⟩
        · exact absurd hk (by simp [keyD])
    obtain ⟨hs, es, ep, hm, rv⟩ := Pk.dk_raw ok ha
    refine ⟨_, e1, a, es, ep, kvs.map fun p => kV p.1, rfl, hs, hm, rv, ?_⟩
    have : ∀ {kvs : List (Key × V)} {ds : List (D × D)}, RpKv X.K B H kvs ds → RpAll X.K B H (kvs.map fun p => kV p.1) (ds.map (·.1)) := by
      intro kvs
      induction kvs with
      | nil => intro ds r; cases r; exact .nil
      | cons p kvs ih =>
        intro ds r
        cases r with
        | @cons k v vs d ds h t =>
          refine .cons ?_ (ih t)
          rcases k with i | z
          · exact .int i
          · exact .str z
    exact this rk
theorem cr_sorted (hc : X.calm = true) (hu : X.A.units + 64 < cLine) : CallR X (.builtin "sorted") (rC1 X.K (f1D .sorted)) := by
  intro pins s σ H xs us Q I r ⟨v, ev, B, x, w, tr, hx, e, q⟩
  subst ev
  cases x with
  | list ds =>
    obtain ⟨ys, e1, rfl⟩ := Option.map_eq_some_iff.mp (show (sortD ds).map (fun ys => Vl.fr (.list ys)) = some w from e)
    obtain ⟨hok, e2⟩ := dec2 (show (if sortOk ds = true then some (isortD ds) else none) = some ys from e1)
    subst e2
    obtain ⟨o1, o2, o3, o4⟩ := sortOk_of hok
    obtain ⟨a, vs, rfl, ha, ra⟩ := hx.list
    obtain ⟨its, rv, hl, hz⟩ := I.list ha
    rw [Vals.ref1 r]
    have e0 := each_of rv ra
    have er : PySem.W.EachIs (fun u d => ∃ as, Reads s.heap u ((fun x : D => x) d) as) its ds := by
      have : ∀ {us : List Value} {l : List D}, PySem.W.EachIs (fun u d => ∃ v, RelV v u ∧ Rp X.K B H v d) us l → (∀ x ∈ l, okD x = true) → PySem.W.EachIs (fun u d => ∃ as, Reads s.heap u ((fun x : D => x) d) as) us l := by
        intro us l h
        induction h with
        | nil => exact fun _ => .nil
        | cons h t ih =>
          intro ho
          obtain ⟨v, r1, h1⟩ := h
          refine .cons ?_ (ih fun x hx => ho x (List.mem_cons_of_mem _ hx))
          have h2 := ho _ List.mem_cons_self
          unfold okD at h2
          rw [Bool.and_eq_true] at h2
          exact Dp.reads I _ v _ (h1.dp h2.1) r1
      exact this e0 o1
    refine PySem.W.sorted_data (enc := fun x : D => x) (bs := ds) (R := fun u d => ∃ v, RelV v u ∧ Rp X.K B H v d) hl.isList e0 er (by rw [List.map_id']; exact o2) (by rw [List.map_id']; exact o3) (SL_le o4) (fun d hd => ?_) fun out h1 h2 => ?_
    · have h2 := o1 d hd
      unfold okD at h2
      rw [Bool.and_eq_true, decide_eq_true_eq] at h2
      have := h2.2
      show X.A.units + 2 + d.depth < cLine
      omega
    · obtain ⟨vs', r1, r2⟩ := of_each h2
      rw [← isortD_merge ds] at r2
      obtain ⟨ep, he'⟩ := PyProof.Rows.sortedAll_at s.heap its out.toArray
      have hlen : vs'.length ≤ sizeLine := by rw [r2.length, (isortD_perm ds).length_eq]; exact SL_le o4
      have hn := I.hok.fresh (Nat.le_succ s.heap.objs.size)
      refine ⟨.ref _, upd H (s.heap.objs.size + 1) (.lst vs'), I.laid (t' := s.toks) (fun _ _ => PyProof.Rows.sortedAll_old) (Nat.le_succ _) ⟨hlen, out, ep, r1, he'⟩, rfl, lstEnd r2 q hn⟩
  | tuple ds =>
    obtain ⟨ys, e1, rfl⟩ := Option.map_eq_some_iff.mp (show (sortD ds).map (fun ys => Vl.fr (.list ys)) = some w from e)
    obtain ⟨hok, e2⟩ := dec2 (show (if sortOk ds = true then some (isortD ds) else none) = some ys from e1)
    subst e2
    obtain ⟨o1, o2, o3, o4⟩ := sortOk_of hok
    obtain ⟨a, vs, rfl, ha, ra, _⟩ := hx.tuple
    obtain ⟨its, rv, hl, _⟩ := I.tuple ha
    rw [Vals.ref1 r]
    have e0 := each_of rv ra
    have er : PySem.W.EachIs (fun u d => ∃ as, Reads s.heap u ((fun x : D => x) d) as) its ds := by
      have : ∀ {us : List Value} {l : List D}, PySem.W.EachIs (fun u d => ∃ v, RelV v u ∧ Rp X.K B H v d) us l → (∀ x ∈ l, okD x = true) → PySem.W.EachIs (fun u d => ∃ as, Reads s.heap u ((fun x : D => x) d) as) us l := by
        intro us l h
        induction h with
        | nil => exact fun _ => .nil
        | cons h t ih =>
          intro ho
          obtain ⟨v, r1, h1⟩ := h
          refine .cons ?_ (ih fun x hx => ho x (List.mem_cons_of_mem _ hx))
          have h2 := ho _ List.mem_cons_self
          unfold okD at h2
          rw [Bool.and_eq_true] at h2
          exact Dp.reads I _ v _ (h1.dp h2.1) r1
      exact this e0 o1
    refine Pk.sorted_tupD (enc := fun x : D => x) (bs := ds) (R := fun u d => ∃ v, RelV v u ∧ Rp X.K B H v d) hl e0 er (by rw [List.map_id']; exact o2) (by rw [List.map_id']; exact o3) (SL_le o4) (fun d hd => ?_) fun out h1 h2 => ?_
    · have h2 := o1 d hd
      unfold okD at h2
      rw [Bool.and_eq_true, decide_eq_true_eq] at h2
      have := h2.2
      show X.A.units + 2 + d.depth < cLine
      omega
    · obtain ⟨vs', r1, r2⟩ := of_each h2
      rw [← isortD_merge ds] at r2
      obtain ⟨ep, he'⟩ := PyProof.Rows.sortedAll_at s.heap its out.toArray
      have hlen : vs'.length ≤ sizeLine := by rw [r2.length, (isortD_perm ds).length_eq]; exact SL_le o4
      have hn := I.hok.fresh (Nat.le_succ s.heap.objs.size)
      refine ⟨.ref _, upd H (s.heap.objs.size + 1) (.lst vs'), I.laid (t' := s.toks) (fun _ _ => PyProof.Rows.sortedAll_old) (Nat.le_succ _) ⟨hlen, out, ep, r1, he'⟩, rfl, lstEnd r2 q hn⟩
  | none => cases e
  | bool b => cases e
  | int b => cases e
  | str b => cases e
  | dict ds =>
    obtain ⟨ys, e9, rfl⟩ := Option.map_eq_some_iff.mp (show (sdkD ds).map (fun ys => Vl.fr (.list ys)) = some w from e)
    obtain ⟨ks, e1, a, es, ep, vs, rfl, hs, hm, rv, ra⟩ := sdk_of I.hok tr hx e9
    obtain ⟨hok, e2⟩ := dec2 (show (if sortOk ks = true then some (isortD ks) else none) = some ys from e1)
    subst e2
    obtain ⟨o1, o2, o3, o4⟩ := sortOk_of hok
    rw [Vals.ref1 r]
    have e0 := each_of rv ra
    have er : PySem.W.EachIs (fun u d => ∃ as, Reads s.heap u ((fun x : D => x) d) as) (es.toList.map (·.key)) ks := by
      have : ∀ {us : List Value} {l : List D}, PySem.W.EachIs (fun u d => ∃ v, RelV v u ∧ Rp X.K B H v d) us l → (∀ x ∈ l, okD x = true) → PySem.W.EachIs (fun u d => ∃ as, Reads s.heap u ((fun x : D => x) d) as) us l := by
        intro us l h
        induction h with
        | nil => exact fun _ => .nil
        | cons h t ih =>
          intro ho
          obtain ⟨v, r1, h1⟩ := h
          refine .cons ?_ (ih fun x hx => ho x (List.mem_cons_of_mem _ hx))
          have h2 := ho _ List.mem_cons_self
          unfold okD at h2
          rw [Bool.and_eq_true] at h2
          exact Dp.reads I _ v _ (h1.dp h2.1) r1
      exact this e0 o1
    refine Pk.sorted_keysD (enc := fun x : D => x) (bs := ks) (R := fun u d => ∃ v, RelV v u ∧ Rp X.K B H v d) (I.ok.hd hc) hs hm rfl e0 er (by rw [List.map_id']; exact o2) (by rw [List.map_id']; exact o3) (SL_le o4) (fun d hd => ?_) fun h' tk l out c g1 g2 g3 h2 => ?_
    · have h2 := o1 d hd
      unfold okD at h2
      rw [Bool.and_eq_true, decide_eq_true_eq] at h2
      have := h2.2
      show X.A.units + 2 + d.depth < cLine
      omega
    · obtain ⟨vs', r1, r2⟩ := of_each h2
      rw [← isortD_merge ks] at r2
      have hlen : vs'.length ≤ sizeLine := by rw [r2.length, (isortD_perm ks).length_eq]; exact SL_le o4
      exact ⟨.ref _, upd H l (.lst vs'), I.laid (t' := tk) g1 g2 ⟨hlen, out, c, r1, g3⟩, rfl, lstEnd r2 q (I.hok.fresh g2)⟩
theorem cr_abs : CallR X (.builtin "abs") (rC1 X.K (f1D .abs)) := by
  intro pins s σ H xs us Q I r ⟨v, ev, B, x, w, tr, hx, e, q⟩
  subst ev
  cases x with
  | int i =>
    cases e
    cases hx.int
    exact call_abs pins s σ H _ _ Q I r ⟨i, rfl, q _ _ grow0 (.int _)⟩
  | bool b => cases e
  | none => cases e
  | list b => cases e
  | tuple b => cases e
  | str b => cases e
  | dict b => cases e
theorem cr_sumP (hc : X.calm = true) : CallR X (.builtin "sum") (rC1 X.K (f1D .sum)) := by
  intro pins s σ H xs us Q I r ⟨v, ev, B, x, w, tr, hx, e, q⟩
  subst ev
  cases x with
  | list ds =>
    obtain ⟨ns, e1, e⟩ := Option.map_eq_some_iff.mp (show (intsD ds).map (fun ns => Vl.d (.int ns.sum)) = some w from e)
    cases e
    obtain ⟨a, vs, rfl, ha, ra⟩ := hx.list
    cases rp_ints ra e1
    exact cr_sum hc pins s σ H _ _ Q I r ⟨a, ns, rfl, ha, q _ _ grow0 (.int _)⟩
  | int i => cases e
  | bool b => cases e
  | none => cases e
  | tuple ds =>
    obtain ⟨ns, e1, e⟩ := Option.map_eq_some_iff.mp (show (intsD ds).map (fun ns => Vl.d (.int ns.sum)) = some w from e)
    cases e
    obtain ⟨a, vs, rfl, ha, ra, _⟩ := hx.tuple
    cases rp_ints ra e1
    exact Pk.cr_sumT hc pins s σ H _ _ Q I r ⟨a, ns, rfl, ha, q _ _ grow0 (.int _)⟩
  | str b => cases e
  | dict b => cases e
theorem cr_allP (hc : X.calm = true) : CallR X (.builtin "all") (rC1 X.K (f1D .all)) := by
  intro pins s σ H xs us Q I r ⟨v, ev, B, x, w, tr, hx, e, q⟩
  subst ev
  cases x with
  | list ds =>
    obtain ⟨ns, e1, e⟩ := Option.map_eq_some_iff.mp (show (boolsD ds).map (fun bs => Vl.d (.bool (bs.all id))) = some w from e)
    cases e
    obtain ⟨a, vs, rfl, ha, ra⟩ := hx.list
    cases rp_bools ra e1
    exact cr_all hc pins s σ H _ _ Q I r ⟨a, ns, rfl, ha, q _ _ grow0 (.bl _)⟩
  | int i => cases e
  | bool b => cases e
  | none => cases e
  | tuple b => cases e
  | str b => cases e
  | dict b => cases e
theorem cr_anyP (hc : X.calm = true) : CallR X (.builtin "any") (rC1 X.K (f1D .any)) := by
  intro pins s σ H xs us Q I r ⟨v, ev, B, x, w, tr, hx, e, q⟩
  subst ev
  cases x with
  | list ds =>
    obtain ⟨ns, e1, e⟩ := Option.map_eq_some_iff.mp (show (boolsD ds).map (fun bs => Vl.d (.bool (bs.any id))) = some w from e)
    cases e
    obtain ⟨a, vs, rfl, ha, ra⟩ := hx.list
    cases rp_bools ra e1
    exact cr_any hc pins s σ H _ _ Q I r ⟨a, ns, rfl, ha, q _ _ grow0 (.bl _)⟩
  | int i => cases e
  | bool b => cases e
  | none => cases e
  | tuple b => cases e
  | str b => cases e
  | dict b => cases e
theorem maxOf_eq : ∀ (r : List Int) (n : Int), PySem.W.maxOf n r = maxI n r
  | [], _ => rfl
  | x :: r, n => by
    show PySem.W.maxOf (if PySem.W.DatumOrd.lt n x = true then x else n) r = maxI (if x > n then x else n) r
    rw [maxOf_eq r]
    congr 1
    show (if decide (n < x) = true then x else n) = _
    by_cases h : n < x
    · rw [if_pos (decide_eq_true h), if_pos h]
    · rw [if_neg (by simpa using h), if_neg h]
theorem minOf_eq : ∀ (r : List Int) (n : Int), PySem.W.minOf n r = minI n r
  | [], _ => rfl
  | x :: r, n => by
    show PySem.W.minOf (if PySem.W.DatumOrd.lt x n = true then x else n) r = minI (if x < n then x else n) r
    rw [minOf_eq r]
    congr 1
    show (if decide (x < n) = true then x else n) = _
    by_cases h : x < n
    · rw [if_pos (decide_eq_true h), if_pos h]
    · rw [if_neg (by simpa using h), if_neg h]
theorem cr_maxP (hc : X.calm = true) (hu : X.A.units + 64 < cLine) : CallR X (.builtin "max") (rC1 X.K (f1D .max)) := by
  intro pins s σ H xs us Q I r ⟨v, ev, B, x, w, tr, hx, e, q⟩
  subst ev
  cases x with
  | list ds =>
    obtain ⟨ns, e1, e⟩ := Option.bind_eq_some_iff.mp (show (intsD ds).bind (fun ns => match ns with | [] => none | n :: r => some (.d (.int (maxI n r)))) = some w from e)
    obtain ⟨a, vs, rfl, ha, ra⟩ := hx.list
    cases rp_ints ra e1
    cases ns with
    | nil => cases e
    | cons n ms =>
      cases e
      refine cr_max hc pins s σ H _ _ Q I r ⟨a, n :: ms, rfl, ha, by simp, fun m h1 h2 => ?_⟩
      obtain ⟨g1, g2, g3⟩ := maxI_ge ms n
      have : m = maxI n ms := by
        refine Int.le_antisymm ?_ (h2 _ ?_)
        · rcases List.mem_cons.mp h1 with e | e
          · rw [e]; exact g1
          · exact g2 m e
        · rcases g3 with e | e
          · rw [e]; exact List.mem_cons_self
          · exact List.mem_cons_of_mem _ e
      rw [this]
      exact q _ _ grow0 (.int _)
  | int i => cases e
  | bool b => cases e
  | none => cases e
  | tuple ds =>
    obtain ⟨ns, e1, e⟩ := Option.bind_eq_some_iff.mp (show (intsD ds).bind (fun ns => match ns with | [] => none | n :: r => some (.d (.int (maxI n r)))) = some w from e)
    obtain ⟨a, vs, rfl, ha, ra, _⟩ := hx.tuple
    cases rp_ints ra e1
    cases ns with
    | nil => cases e
    | cons n ms =>
      cases e
      refine Pk.cr_maxT hc (by omega) pins s σ H _ _ Q I r ⟨a, n, ms, rfl, ha, ?_⟩
      rw [maxOf_eq]
      exact q _ _ grow0 (.int _)
  | str b => cases e
  | dict b => cases e
theorem cr_minP (hc : X.calm = true) (hu : X.A.units + 64 < cLine) : CallR X (.builtin "min") (rC1 X.K (f1D .min)) := by
  intro pins s σ H xs us Q I r ⟨v, ev, B, x, w, tr, hx, e, q⟩
  subst ev
  cases x with
  | list ds =>
    obtain ⟨ns, e1, e⟩ := Option.bind_eq_some_iff.mp (show (intsD ds).bind (fun ns => match ns with | [] => none | n :: r => some (.d (.int (minI n r)))) = some w from e)
    obtain ⟨a, vs, rfl, ha, ra⟩ := hx.list
    cases rp_ints ra e1
    cases ns with
    | nil => cases e
    | cons n ms =>
      cases e
      refine cr_min hc pins s σ H _ _ Q I r ⟨a, n :: ms, rfl, ha, by simp, fun m h1 h2 => ?_⟩
      obtain ⟨g1, g2, g3⟩ := minI_le ms n
      have : m = minI n ms := by
        refine Int.le_antisymm (h2 _ ?_) ?_
        · rcases g3 with e | e
          · rw [e]; exact List.mem_cons_self
          · exact List.mem_cons_of_mem _ e
        · rcases List.mem_cons.mp h1 with e | e
          · rw [e]; exact g1
          · exact g2 m e
      rw [this]
      exact q _ _ grow0 (.int _)
  | int i => cases e
  | bool b => cases e
  | none => cases e
  | tuple ds =>
    obtain ⟨ns, e1, e⟩ := Option.bind_eq_some_iff.mp (show (intsD ds).bind (fun ns => match ns with | [] => none | n :: r => some (.d (.int (minI n r)))) = some w from e)
    obtain ⟨a, vs, rfl, ha, ra, _⟩ := hx.tuple
    cases rp_ints ra e1
    cases ns with
    | nil => cases e
    | cons n ms =>
      cases e
      refine Pk.cr_minT hc (by omega) pins s σ H _ _ Q I r ⟨a, n, ms, rfl, ha, ?_⟩
      rw [minOf_eq]
      exact q _ _ grow0 (.int _)
  | str b => cases e
  | dict b => cases e
def F1.name : F1 → Str × Bool
  | .len => ("len", false) | .tuple => ("tuple", true) | .list => ("list", true) | .int => ("int", true) | .abs => ("abs", false)
  | .sum => ("sum", false) | .all => ("all", false) | .any => ("any", false) | .max => ("max", false) | .min => ("min", false)
  | .sorted => ("sorted", false) | .str => ("str", true) | .sset => ("sorted", false) | .lset => ("len", false) | .srt1 => ("sorted", false)
theorem perm_one {α : Type} : ∀ {l m : List α}, l.Perm m → m.length = 1 → l = m
  | l, [a], h, _ => List.perm_singleton.mp h
  | _, [], _, e => by cases e
  | _, _ :: _ :: _, _, e => by simp at e
theorem cr_srt1 (hc : X.calm = true) (hu : X.A.units + 64 < cLine) : CallR X (.builtin "sorted") (rC1 X.K (f1D .srt1)) := by
  intro pins s σ H xs us Q I r h
  obtain ⟨v, ev, B, x, w, tr, hx, e, q⟩ := h
  cases x with
  | list ds =>
    by_cases h1 : ds.length = 1
    · have e : some (Vl.fr (.list ds)) = some w := (if_pos h1).symm.trans e
      cases e
      subst ev
      obtain ⟨a, vs, rfl, ha, ra⟩ := hx.list
      obtain ⟨its, rv, hl, hz⟩ := I.list ha
      rw [Vals.ref1 r]
      have hv : vs.length = 1 := by rw [ra.length]; exact h1
      have hi : its.length = 1 := by rw [← rv.length]; exact hv
      refine Srt.sorted_any hl.isList (by rw [hi]; decide) (fun h2 => absurd h2 (by rw [hi]; decide)) fun out hp => ?_
      obtain rfl := perm_one hp hi
      obtain ⟨ep, he'⟩ := PyProof.Rows.sortedAll_at s.heap out out.toArray
      have hlen : vs.length ≤ sizeLine := by rw [hv]; decide
      have hn := I.hok.fresh (Nat.le_succ s.heap.objs.size)
      exact ⟨.ref _, upd H (s.heap.objs.size + 1) (.lst vs), I.laid (t' := s.toks) (fun _ _ => PyProof.Rows.sortedAll_old) (Nat.le_succ _) ⟨hlen, out, ep, rv, he'⟩, rfl, lstEnd ra q hn⟩
    · exact cr_sorted hc hu pins s σ H xs us Q I r ⟨v, ev, B, .list ds, w, tr, hx, (if_neg h1).symm.trans e, q⟩
  | _ => cases e
theorem pe_f1 {f : F1} {e : Expr} {fa : Ev → Sto → Option (D × Sto)} {p pos : Pos} (hc : X.calm = true) (hu : X.A.units + 64 < cLine) (hg : Gl X f.name.1) (hm : X.mg f.name.1 = none) (ha : PE X e (SemB X.K fa)) (he : starEach [e] X.env = [(false, eval e X.env)]) (hf : f ≠ .sset ∧ f ≠ .lset) :
    PE X (.Call (.Name f.name.1 p) [e] [] pos) (SemE X.K fun env st => bnd (fa env st) fun x s => ret (f1D f x) s) := by
  have hs : starEach [e] X.env = (false, eval e X.env) :: starEach [] X.env := he
  have nf : ∀ x w, f1D f x = some w → NoRf w := fun x w h n hn => by
    subst hn
    revert h
    cases f <;> cases x <;> simp [f1D] <;> (try split) <;> (try simp)
    all_goals (intro h; obtain ⟨ns, _, h⟩ := Option.bind_eq_some_iff.mp h; cases ns <;> cases h)
  have im : ∀ σ H Q, SemE X.K (fun env st => bnd (fa env st) fun x s => ret (f1D f x) s) σ H Q → tCB (rC1 X.K (f1D f)) (tCons (SemB X.K fa) tNil) σ H Q := fun σ H Q h => by
    obtain ⟨M, U, st, env, x, s, er, e1, k⟩ := sem_fn (f := f1D f) nf σ H Q h
    exact ⟨M, U, st, env, x, s, er, e1, fun v H' M' s1 so r => ⟨v, rfl, k v H' M' s1 so r⟩⟩
  have pa : PA X [e] (tCons (SemB X.K fa) tNil) := pa_cons ha pa_nil hs
  cases f with
  | len => exact peImp (pe_callB cr_len hg hm PySem.boot_len pa (by decide +kernel) (by decide +kernel) hs rfl) im
  | tuple => exact peImp (pe_callTy cr_tuple hg hm (by decide +kernel) pa (by decide +kernel) (by decide +kernel) hs rfl) im
  | list => exact peImp (pe_callTy (cr_list hc) hg hm (by decide +kernel) pa (by decide +kernel) (by decide +kernel) hs rfl) im
  | int => exact peImp (pe_callTy cr_int hg hm (by decide +kernel) pa (by decide +kernel) (by decide +kernel) hs rfl) im
  | abs => exact peImp (pe_callB cr_abs hg hm (by decide +kernel) pa (by decide +kernel) (by decide +kernel) hs rfl) im
  | sum => exact peImp (pe_callB (cr_sumP hc) hg hm (by decide +kernel) pa (by decide +kernel) (by decide +kernel) hs rfl) im
  | all => exact peImp (pe_callB (cr_allP hc) hg hm (by decide +kernel) pa (by decide +kernel) (by decide +kernel) hs rfl) im
  | any => exact peImp (pe_callB (cr_anyP hc) hg hm (by decide +kernel) pa (by decide +kernel) (by decide +kernel) hs rfl) im
  | max => exact peImp (pe_callB (cr_maxP hc hu) hg hm (by decide +kernel) pa (by decide +kernel) (by decide +kernel) hs rfl) im
  | min => exact peImp (pe_callB (cr_minP hc hu) hg hm (by decide +kernel) pa (by decide +kernel) (by decide +kernel) hs rfl) im
  | sorted => exact peImp (pe_callB (cr_sorted hc hu) hg hm (by decide +kernel) pa (by decide +kernel) (by decide +kernel) hs rfl) im
  | srt1 => exact peImp (pe_callB (cr_srt1 hc hu) hg hm (by decide +kernel) pa (by decide +kernel) (by decide +kernel) hs rfl) im
  | str => exact peImp (pe_callTy cr_str hg hm (by decide +kernel) pa (by decide +kernel) (by decide +kernel) hs rfl) im
  | sset => exact absurd rfl hf.1
  | lset => exact absurd rfl hf.2
end
end Pi

end
section
set_option Elab.async false
set_option linter.all false
set_option maxRecDepth 100000
set_option maxHeartbeats 1000000
namespace Pi
open PySem PySem.Spec PyProof.Rows L2
def nice : Expr → Bool
  | .Starred .. => false
  | .Slice .. => false
  | .Set .. => false
  | _ => true
section
variable {X : Cx} {K : PySem.W.Frag}
theorem star1 {x : Expr} (h : nice x = true) (xs : List Expr) (env : Env) : starEach (x :: xs) env = (false, eval x env) :: starEach xs env := by cases x <;> first | rfl | cases h
theorem few1 {x : Expr} (n : nice x = true) (cp : Pos) (env : Env) : ((backTo cp (starEach [x] env)).all (fun x => !x.1) && (backToKw cp (keywordEach [] env)).all (fun x => x.1.isSome)
      && decide (([x] : List Expr).length + ([] : List Keyword).length + (if ([] : List Keyword).isEmpty then 0 else 1) < 30)) = true := by
  rw [star1 n [] env]; rfl
theorem plainIx {x : Expr} (h : nice x = true) : PlainIx x := fun o i => by cases x <;> first | rfl | cases h
theorem noMark {x : Expr} (h : nice x = true) (op : CmpOp) : behindInMarks op x = false := by cases x <;> first | rfl | cases h
theorem noFold {x : Expr} (h : nice x = true) (env : Env) (v : Value) : foldedSetIterable x env v = pure v := by cases x <;> first | rfl | cases h
theorem join_some {o : Option (Option V)} {v : V} (h : o.join = some v) : o = some (some v) := by
  cases o with
  | none => cases h
  | some w => cases h; rfl
theorem se_const {e : Expr} {v : V} {x : D} (h : PE X e (tC v)) (r : ∀ B H, Rp K B H v x) : PE X e (SemE K fun _ st => some (.d x, st)) := peImp h fun σ H Q ⟨M, U, st, env, w, s, er, ex, q⟩ => by
  cases ex
  exact q v H M Stp.refl er.sto (r _ _)
theorem se_var {i : Nat} {x : Str} {pos : Pos} (hN : X.N[i]? = some x) (hv : Vis X.env.scope x) (hd : (x == ("__debug__" : Str)) = false) (hcd : (x == ("__classdict__" : Str)) = false) :
    PE X (.Name x pos) (SemE K fun env st => match look env i with | .sh y => some (.d y, st) | .rf n => some (.rf n, st) | _ => none) := peImp (pe_var hN hv hd hcd) fun σ H Q ⟨M, U, st, env, w, s, er, ex, q⟩ => by
  have h := er.env i
  dsimp only at ex
  cases hl : look env i with
  | sh y =>
    rw [hl] at h ex
    cases ex
    obtain ⟨v, e, r⟩ := h
    exact ⟨v, join_some e, q v H M Stp.refl er.sto r⟩
  | rf n =>
    rw [hl] at h ex
    cases ex
    obtain ⟨a, e, e2⟩ := h
    exact ⟨_, join_some e2, q a H M Stp.refl er.sto e⟩
  | no => rw [hl] at ex; cases ex
  | kt y => rw [hl] at ex; cases ex
  | ow y => rw [hl] at ex; cases ex
  | lk y => rw [hl] at ex; cases ex
theorem sb_var {i : Nat} {x : Str} {pos : Pos} {r : Option (Vl × Sto)} (hN : X.N[i]? = some x) (hv : Vis X.env.scope x) (hd : (x == ("__debug__" : Str)) = false) (hcd : (x == ("__classdict__" : Str)) = false) :
    PE X (.Name x pos) (SemB K fun env st => match look env i with | .sh x => some (x, st) | .ow x => some (x, st) | .lk x => some (x, st) | _ => none) := peImp (pe_var hN hv hd hcd) fun σ H Q ⟨M, U, st, env, w, s, er, ex, q⟩ => by
  have h := er.env i
  dsimp only at ex
  cases hl : look env i with
  | sh y =>
    rw [hl] at h ex
    cases ex
    obtain ⟨v, e, r⟩ := h
    exact ⟨v, join_some e, q v H M Stp.refl er.sto (.inl r)⟩
  | rf n => rw [hl] at ex; cases ex
  | no => rw [hl] at ex; cases ex
  | kt y => rw [hl] at ex; cases ex
  | ow y =>
    rw [hl] at h ex
    cases ex
    obtain ⟨a, e, u, r⟩ := h
    exact ⟨_, join_some e, q _ H M Stp.refl er.sto (.inr ⟨a, rfl, ⟨u, i, _, .inl hl, e⟩, r⟩)⟩
  | lk y =>
    rw [hl] at h ex
    cases ex
    obtain ⟨a, e, u, r⟩ := h
    exact ⟨_, join_some e, q _ H M Stp.refl er.sto (.inr ⟨a, rfl, ⟨u, i, _, .inr hl, e⟩, r⟩)⟩
def SemL (K : PySem.W.Frag) (f : Ev → Sto → Option (List D × Sto)) : TA := fun σ H Q => ∃ M U st env xs st', ER K M U H st σ env ∧ f env st = some (xs, st') ∧
  ∀ vs H' M', Stp M H M' H' → StoOk K M' U H' st' → RpAll K (Bar M' U) H' vs xs → Q vs H'
theorem paImp {es : List Expr} {t t' : TA} (h : PA X es t) (f : ∀ σ H Q, t' σ H Q → t σ H Q) : PA X es t' := ⟨fun pos pins s σ H Q I q => h.run pos pins s σ H Q I (f σ H Q q)⟩
theorem sl_nil : PA X [] (SemL K fun _ st => some ([], st)) := paImp pa_nil fun σ H Q ⟨M, U, st, env, w, s, er, ex, q⟩ => by
  cases ex
  exact q [] H M Stp.refl er.sto .nil
theorem sl_cons {e : Expr} {es : List Expr} {f : Ev → Sto → Option (D × Sto)} {g : Ev → Sto → Option (List D × Sto)} (n : nice e = true) (he : PE X e (SemD K f)) (hes : PA X es (SemL K g)) :
    PA X (e :: es) (SemL K fun env st => bnd (f env st) fun x s => bnd (g env s) fun xs s' => some (x :: xs, s')) := paImp (pa_cons he hes (star1 n es _)) fun σ H Q ⟨M, U, st, env, w, s, er, ex, q⟩ => by
  obtain ⟨x, s1, e1, ex⟩ := bnd_eq ex
  obtain ⟨xs, s2, e2, ex⟩ := bnd_eq ex
  cases ex
  exact ⟨M, U, st, env, x, s1, er, e1, fun v H1 M1 p1 so1 r1 => ⟨M1, U, s1, env, xs, _, er.step p1 so1, e2, fun vs H2 M2 p2 so2 r2 => q _ H2 M2 (p1.trans p2) so2 (.cons (r1.step p2) r2)⟩⟩
def VsR (K : PySem.W.Frag) (M : List Addr) (U : Addr → Prop) (H : Hp) : V → Vl → Prop := fun v w => match w with
  | .d x => Rp K (Bar M U) H v x
  | .fr _ => False
  | .rf n => ∃ a, M[n]? = some a ∧ v = .ref a
inductive VsAll (K : PySem.W.Frag) (M : List Addr) (U : Addr → Prop) (H : Hp) : List V → List Vl → Prop
  | nil : VsAll K M U H [] []
  | cons {v : V} {w : Vl} {vs : List V} {ws : List Vl} : VsR K M U H v w → VsAll K M U H vs ws → VsAll K M U H (v :: vs) (w :: ws)
theorem VsR.step {M M' : List Addr} {U : Addr → Prop} {H H' : Hp} (s : Stp M H M' H') {v : V} {w : Vl} (h : VsR K M U H v w) : VsR K M' U H' v w := by
  cases w with
  | d x => exact Rp.step s h
  | fr x => exact h.elim
  | rf n =>
    obtain ⟨a, e, q⟩ := h
    refine ⟨a, ?_, q⟩
    obtain ⟨t, rfl⟩ := s.pre
    rw [List.getElem?_append_left (List.getElem?_eq_some_iff.mp e).1]
    exact e
theorem VsAll.step {M M' : List Addr} {U : Addr → Prop} {H H' : Hp} (s : Stp M H M' H') : ∀ {vs : List V} {ws : List Vl}, VsAll K M U H vs ws → VsAll K M' U H' vs ws
  | _, _, .nil => .nil
  | _, _, .cons h r => .cons (h.step s) (r.step s)
theorem VsAll.length {M : List Addr} {U : Addr → Prop} {H : Hp} : ∀ {vs : List V} {ws : List Vl}, VsAll K M U H vs ws → vs.length = ws.length
  | _, _, .nil => rfl
  | _, _, .cons _ r => congrArg (· + 1) r.length
theorem VsAll.append {M : List Addr} {U : Addr → Prop} {H : Hp} : ∀ {vs us : List V} {ws zs : List Vl}, VsAll K M U H vs ws → VsAll K M U H us zs → VsAll K M U H (vs ++ us) (ws ++ zs)
  | _, _, _, _, .nil, h => h
  | _, _, _, _, .cons h r, g => .cons h (r.append g)
theorem VsAll.get {M : List Addr} {U : Addr → Prop} {H : Hp} : ∀ {vs : List V} {ws : List Vl}, VsAll K M U H vs ws → ∀ {i : Nat} {w : Vl}, ws[i]? = some w → ∃ v, vs[i]? = some v ∧ VsR K M U H v w
  | _, _, .nil, i, d, h => by simp at h
  | _, _, .cons h r, 0, d, e => by simp at e; subst e; exact ⟨_, rfl, h⟩
  | _, _, .cons _ r, i + 1, d, e => by
    obtain ⟨v, h1, h2⟩ := r.get (i := i) (by simpa using e)
    exact ⟨v, by simpa using h1, h2⟩
theorem VsAll.pick {M : List Addr} {U : Addr → Prop} {H : Hp} {vs : List V} {ws : List Vl} (h : VsAll K M U H vs ws) : ∀ {pm : List Nat} {us : List Vl}, pick ws pm = some us → ∃ zs, pick vs pm = some zs ∧ VsAll K M U H zs us
  | [], _, e => by cases e; exact ⟨[], rfl, .nil⟩
  | i :: is, us, e => by
    obtain ⟨w, e1, e⟩ := Option.bind_eq_some_iff.mp (show (ws[i]?).bind (fun x => (Pi.pick ws is).map (x :: ·)) = some us from e)
    obtain ⟨us', e2, rfl⟩ := Option.map_eq_some_iff.mp e
    obtain ⟨v, h1, h2⟩ := h.get e1
    obtain ⟨zs, h3, h4⟩ := h.pick e2
    refine ⟨v :: zs, ?_, .cons h2 h4⟩
    show (vs[i]?).bind (fun x => (Pi.pick vs is).map (x :: ·)) = _
    rw [h1, h3]; rfl
def SemA (K : PySem.W.Frag) (f : Ev → Sto → Option (List Vl × Sto)) : TA := fun σ H Q => ∃ M U st env ws st', ER K M U H st σ env ∧ f env st = some (ws, st') ∧
  ∀ vs H' M', Stp M H M' H' → StoOk K M' U H' st' → VsAll K M' U H' vs ws → Q vs H'
theorem sa_nil : PA X [] (SemA K fun _ st => some ([], st)) := paImp pa_nil fun σ H Q ⟨M, U, st, env, w, s, er, ex, q⟩ => by
  cases ex
  exact q [] H M Stp.refl er.sto .nil
theorem arg_post {M : List Addr} {U : Addr → Prop} {H : Hp} {st : Sto} {w : Vl} {Q : VK} (tr : ∀ a, U a → ∃ o, H a = some o) (q : ∀ v H' M', Stp M H M' H' → StoOk K M' U H' st → VsR K M' U H' v (argV w) → Q v H') : EPost K M U H st w Q := by
  cases w with
  | d x => exact q
  | fr x => exact EPost.toD tr (x := x) rfl q
  | rf n => exact fun a H' M' s so e => q _ H' M' s so ⟨a, e, rfl⟩
theorem sa_cons {e : Expr} {es : List Expr} {f : Ev → Sto → Option (Vl × Sto)} {g : Ev → Sto → Option (List Vl × Sto)} (n : nice e = true) (he : PE X e (SemE K f)) (hes : PA X es (SemA K g)) :
    PA X (e :: es) (SemA K fun env st => bnd (f env st) fun x s => bnd (g env s) fun xs s' => some (argV x :: xs, s')) := paImp (pa_cons he hes (star1 n es _)) fun σ H Q ⟨M, U, st, env, w, s, er, ex, q⟩ => by
  obtain ⟨x, s1, e1, ex⟩ := bnd_eq ex
  obtain ⟨xs, s2, e2, ex⟩ := bnd_eq ex
  cases ex
  exact ⟨M, U, st, env, x, s1, er, e1, arg_post er.sto.tr fun v H1 M1 p1 so1 r1 => ⟨M1, U, s1, env, xs, _, er.step p1 so1, e2, fun vs H2 M2 p2 so2 r2 => q _ H2 M2 (p1.trans p2) so2 (.cons (r1.step p2) r2)⟩⟩
theorem pkImp {ks : List Keyword} {t t' : TA} (h : PK X ks t) (f : ∀ σ H Q, t' σ H Q → t σ H Q) : PK X ks t' := ⟨fun pos pins s σ H Q I q => h.run pos pins s σ H Q I (f σ H Q q)⟩
theorem sk_nil : PK X [] (SemA K fun _ st => some ([], st)) := pkImp pk_nil fun σ H Q ⟨M, U, st, env, w, s, er, ex, q⟩ => by
  cases ex
  exact q [] H M Stp.refl er.sto .nil
theorem sk_cons {e : Expr} {ks : List Keyword} {nm : Option Str} {kpos : Pos} {f : Ev → Sto → Option (Vl × Sto)} {g : Ev → Sto → Option (List Vl × Sto)} (he : PE X e (SemE K f)) (hes : PK X ks (SemA K g)) :
    PK X (⟨nm, e, kpos⟩ :: ks) (SemA K fun env st => bnd (f env st) fun x s => bnd (g env s) fun xs s' => some (argV x :: xs, s')) := pkImp (pk_cons he hes) fun σ H Q ⟨M, U, st, env, w, s, er, ex, q⟩ => by
  obtain ⟨x, s1, e1, ex⟩ := bnd_eq ex
  obtain ⟨xs, s2, e2, ex⟩ := bnd_eq ex
  cases ex
  exact ⟨M, U, st, env, x, s1, er, e1, arg_post er.sto.tr fun v H1 M1 p1 so1 r1 => ⟨M1, U, s1, env, xs, _, er.step p1 so1, e2, fun vs H2 M2 p2 so2 r2 => q _ H2 M2 (p1.trans p2) so2 (.cons (r1.step p2) r2)⟩⟩
theorem se_tup {es : List Expr} {k : Nat} {pos : Pos} {g : Ev → Sto → Option (List D × Sto)} (h : PA X es (SemL K g)) :
    PE X (.Tuple es k pos) (SemE K fun env st => bnd (g env st) fun xs s => if xs.length ≤ SL then some (.d (.tuple xs), s) else none) := peImp (Pk.pe_tupK h) fun σ H Q ⟨M, U, st, env, w, s, er, ex, q⟩ => by
  obtain ⟨xs, s1, e1, ex⟩ := bnd_eq ex
  obtain ⟨hz, ex⟩ := dec2 ex
  cases ex
  exact ⟨M, U, st, env, xs, _, er, e1, fun vs H1 M1 p1 so1 r1 => ⟨by rw [r1.length]; exact SL_le hz, tupEnd so1.tracked r1 (EPost.op q p1 so1 (fun _ h => by cases h))⟩⟩
theorem se_lst {es : List Expr} {pos : Pos} {g : Ev → Sto → Option (List D × Sto)} (h : PA X es (SemL K g)) :
    PE X (.List es pos) (SemE K fun env st => bnd (g env st) fun xs s => if xs.length ≤ SL then some (.fr (.list xs), s) else none) := peImp (pe_lst h) fun σ H Q ⟨M, U, st, env, w, s, er, ex, q⟩ => by
  obtain ⟨xs, s1, e1, ex⟩ := bnd_eq ex
  obtain ⟨hz, ex⟩ := dec2 ex
  cases ex
  exact ⟨M, U, st, env, xs, _, er, e1, fun vs H1 M1 p1 so1 r1 => ⟨by rw [r1.length]; exact SL_le hz, fun p n => lstEnd r1 (EPost.op q p1 so1 (fun _ h => by cases h)) n⟩⟩
theorem bin_nf {b : Bop} {x y : D} {w : Vl} (h : binD b x y = some w) : NoRf w := fun n e => by
  subst e
  cases b <;> cases x <;> cases y <;> simp [binD, addD, mulD] at h
theorem se_bin {op : Operator} {b : Bop} (h : op = (match b with | .add => .Add | .sub => .Sub | .mul => .Mult | .fdiv => .FloorDiv | .mod => .Mod | .pow => .Pow)) {x y : Expr} {pos : Pos} {f g : Ev → Sto → Option (D × Sto)} (hx : PE X x (SemB X.K f)) (hy : PE X y (SemB X.K g)) :
    PE X (.BinOp x op y pos) (SemE X.K fun env st => bnd (f env st) fun u s => bnd (g env s) fun v s' => ret (binD b u v) s') := peImp (pe_op (op_binP h) hx hy) (sem_op fun _ _ _ => bin_nf)
theorem bV_nf {f : D → D → Option Bool} {x y : D} {w : Vl} (h : bV f x y = some w) : NoRf w := fun n e => by
  subst e
  obtain ⟨k, _, e⟩ := Option.map_eq_some_iff.mp h
  cases e
theorem se_cmp {op : CmpOp} {c : Cop} (h : op = (match c with | .eq => .Eq | .ne => .NotEq | .lt => .Lt | .le => .LtE | .gt => .Gt | .ge => .GtE | .isin => .In | .notin => .NotIn)) (hu : X.A.units + 64 < cLine) {x y : Expr} {pos : Pos} {f g : Ev → Sto → Option (D × Sto)} (n : nice y = true)
    (hx : PE X x (SemB X.K f)) (hy : PE X y (SemB X.K g)) : PE X (.Compare x [op] [y] pos) (SemE X.K fun env st => bnd (f env st) fun u s => bnd (g env s) fun v s' => ret ((cmpD c u v).map fun k => .d (.bool k)) s') :=
  peImp (pe_cmpR (op_cmpP h hu) hx hy (noMark n op)) (sem_op fun _ _ _ => bV_nf)
theorem tBool {f : Ev → Sto → Option (Vl × Sto)} {t : TE} (im : ∀ σ H Q, SemE K f σ H Q → t σ H Q) (hb : ∀ env st w s, f env st = some (w, s) → ∃ k, w = .d (.bool k)) :
    ∀ σ H Q, SemT K (fun env st => tru (toD (f env st))) σ H Q → tTest t σ H Q := fun σ H Q ⟨M, U, st, env, b, s, er, ex, q⟩ => by
  obtain ⟨x, s1, e1, ex⟩ := bnd_eq (show bnd (toD (f env st)) (fun x s => ret (truD x) s) = some (b, s) from ex)
  obtain ⟨w, s2, e2, e3⟩ := bnd_eq (show bnd (f env st) (fun w s => w.toD.map fun x => (x, s)) = some (x, s1) from e1)
  obtain ⟨k, rfl⟩ := hb _ _ _ _ e2
  cases e3
  cases ex
  refine im σ H _ ⟨M, U, st, env, _, _, er, e2, fun v H' M' p so r => ?_⟩
  cases r
  exact ⟨_, rfl, q H' M' p so⟩
theorem ret_bool {c : Cop} {f g : Ev → Sto → Option (D × Sto)} (env : Ev) (st : Sto) (w : Vl) (s : Sto) (h : bnd (f env st) (fun u s => bnd (g env s) fun v s' => ret ((cmpD c u v).map fun k => Vl.d (.bool k)) s') = some (w, s)) : ∃ k, w = .d (.bool k) := by
  obtain ⟨u, s1, _, h⟩ := bnd_eq h
  obtain ⟨v, s2, _, h⟩ := bnd_eq h
  obtain ⟨w', e1, h⟩ := Option.map_eq_some_iff.mp h
  cases h
  obtain ⟨k, _, e⟩ := Option.map_eq_some_iff.mp e1
  exact ⟨k, e.symm⟩
theorem st_cmp {op : CmpOp} {c : Cop} (h : op = (match c with | .eq => .Eq | .ne => .NotEq | .lt => .Lt | .le => .LtE | .gt => .Gt | .ge => .GtE | .isin => .In | .notin => .NotIn)) (hu : X.A.units + 64 < cLine) {x y : Expr} {pos : Pos} {f g : Ev → Sto → Option (D × Sto)} (n : nice y = true)
    (hx : PE X x (SemB X.K f)) (hy : PE X y (SemB X.K g)) : PT X (.Compare x [op] [y] pos) (SemT X.K fun env st => tru (toD (bnd (f env st) fun u s => bnd (g env s) fun v s' => ret ((cmpD c u v).map fun k => .d (.bool k)) s'))) :=
  ptImp (pt_cmpR (op_cmpP h hu) hx hy (noMark n op)) (tBool (sem_op fun _ _ _ => bV_nf) ret_bool)
theorem truV {B : Addr → Prop} {H : Hp} {v : V} {x : D} {k : Bool} (r : RpW K B H v x) (h : truD x = some k) : TruV K v H k := by
  cases x with
  | none => cases r.none; cases h; rfl
  | bool b => cases r.bool; cases h; rfl
  | int i => cases r.int; cases h; rfl
  | str z =>
    cases r.str
    obtain ⟨hz, e⟩ := dec2 (show (if z.length ≤ SL then some (z.length != 0) else none) = some k from h)
    refine ⟨SL_le hz, ?_⟩
    rw [← e]
    cases z.length <;> rfl
  | list xs =>
    obtain ⟨a, vs, rfl, ha, ra⟩ := r.list
    cases h
    refine .inl ⟨vs, ha, ?_⟩
    cases ra <;> rfl
  | tuple xs =>
    obtain ⟨a, vs, rfl, ha, ra, _⟩ := r.tuple
    cases h
    refine .inr (.inl ⟨vs, ha, ?_⟩)
    cases ra <;> rfl
  | dict d => cases h
theorem st_of {e : Expr} {f : Ev → Sto → Option (D × Sto)} (he : PE X e (SemB X.K f)) (h : ∀ whole, isTrue e X.env whole = (do let v ← whole; standAt e.pos; holding [v] (truthy v))) : PT X e (SemT X.K fun env st => tru (f env st)) :=
  ptImp (pt_truth he h) fun σ H Q ⟨M, U, st, env, b, s, er, ex, q⟩ => by
    obtain ⟨x, s1, e1, ex⟩ := bnd_eq (show bnd (f env st) (fun x s => ret (truD x) s) = some (b, s) from ex)
    obtain ⟨k, e2, ex⟩ := Option.map_eq_some_iff.mp ex
    cases ex
    exact ⟨M, U, st, env, x, _, er, e1, fun v H' M' p so r => ⟨_, truV r.w e2, q H' M' p so⟩⟩
end
end Pi

end
section
set_option Elab.async false
set_option linter.all false
set_option maxRecDepth 100000
set_option maxHeartbeats 1000000
namespace Pi
open PySem PySem.Spec PyProof.Rows L2
section
variable {X : Cx} {x y z : Expr} {pos : Pos} {f g h : Ev → Sto → Option (D × Sto)}
theorem ret_eq {α : Type} {o : Option α} {st s : Sto} {a : α} (h : ret o st = some (a, s)) : o = some a ∧ st = s := by
  obtain ⟨b, e, h⟩ := Option.map_eq_some_iff.mp h
  cases h
  exact ⟨e, rfl⟩
abbrev opC : Cop → CmpOp
  | .eq => .Eq | .ne => .NotEq | .lt => .Lt | .le => .LtE | .gt => .Gt | .ge => .GtE | .isin => .In | .notin => .NotIn
def isNF (b : Bool) (f : Ev → Sto → Option (D × Sto)) (env : Ev) (st : Sto) : Option (Vl × Sto) := bnd (f env st) fun x s => some (.d (.bool (match x with | .none => b | _ => !b)), s)
theorem nonIff {K : PySem.W.Frag} {B : Addr → Prop} {H : Hp} {v : V} {u : D} (r : RpW K B H v u) : decide (v = V.non) = isNone u := by
  cases u with
  | none => cases r.none; rfl
  | bool b => cases r.bool; rfl
  | int i => cases r.int; rfl
  | str z => cases r.str; rfl
  | list xs => obtain ⟨a, vs, rfl, _⟩ := r.list; rfl
  | tuple xs => obtain ⟨a, vs, rfl, _⟩ := r.tuple; rfl
  | dict ds =>
    rcases r with r | ⟨a, rfl, _⟩
    · cases r <;> rfl
    · rfl
theorem isN_im (σ : L2.St) (H : Hp) (Q : VK) (hh : SemE X.K (isNF true f) σ H Q) : tIsN (SemB X.K f) σ H Q := by
  obtain ⟨M, U, st, env, w, s, er, ex, q⟩ := hh
  obtain ⟨u, s1, e1, ex⟩ := bnd_eq ex
  cases ex
  refine ⟨M, U, st, env, u, _, er, e1, fun v H1 M1 p1 so1 r1 => ?_⟩
  refine EPost.op q p1 so1 (fun _ h => by cases h) (.bl (decide (v = V.non))) H1 grow0 ?_
  rw [nonIff r1.w]
  cases u <;> exact .bl _
theorem isnN_im (σ : L2.St) (H : Hp) (Q : VK) (hh : SemE X.K (isNF false f) σ H Q) : tNotN (SemB X.K f) σ H Q := by
  obtain ⟨M, U, st, env, w, s, er, ex, q⟩ := hh
  obtain ⟨u, s1, e1, ex⟩ := bnd_eq ex
  cases ex
  refine ⟨M, U, st, env, u, _, er, e1, fun v H1 M1 p1 so1 r1 => ?_⟩
  refine EPost.op q p1 so1 (fun _ h => by cases h) (.bl (!decide (v = V.non))) H1 grow0 ?_
  rw [nonIff r1.w]
  cases u <;> exact .bl _
theorem isN_bool {b : Bool} (env : Ev) (st : Sto) (w : Vl) (s : Sto) (hh : isNF b f env st = some (w, s)) : ∃ k, w = .d (.bool k) := by
  obtain ⟨u, s1, _, ex⟩ := bnd_eq hh
  cases ex
  exact ⟨_, rfl⟩
theorem se_isN {j : Nat} {p : Pos} (hx : PE X x (SemB X.K f)) : PE X (.Compare x [.Is] [.Constant .none j p] pos) (SemE X.K (isNF true f)) := peImp (pe_cmp (pc_isN hx) rfl) isN_im
theorem se_isnN {j : Nat} {p : Pos} (hx : PE X x (SemB X.K f)) : PE X (.Compare x [.IsNot] [.Constant .none j p] pos) (SemE X.K (isNF false f)) := peImp (pe_cmp (pc_notN hx) rfl) isnN_im
theorem st_isN {j : Nat} {p : Pos} (hx : PE X x (SemB X.K f)) : PT X (.Compare x [.Is] [.Constant .none j p] pos) (SemT X.K fun env st => tru (toD (isNF true f env st))) := ptImp (pt_cmp (pc_isN hx) rfl) (tBool isN_im isN_bool)
theorem st_isnN {j : Nat} {p : Pos} (hx : PE X x (SemB X.K f)) : PT X (.Compare x [.IsNot] [.Constant .none j p] pos) (SemT X.K fun env st => tru (toD (isNF false f env st))) := ptImp (pt_cmp (pc_notN hx) rfl) (tBool isnN_im isN_bool)
theorem se_neg (hx : PE X x (SemB X.K f)) : PE X (.UnaryOp .USub x pos) (SemE X.K fun env st => bnd (f env st) fun x s => ret ((asInt x).map fun i => .d (.int (-i))) s) :=
  peImp (pe_un un_neg hx) fun σ H Q ⟨M, U, st, env, w, s, er, ex, q⟩ => by
    obtain ⟨u, s1, e1, ex⟩ := bnd_eq ex
    obtain ⟨w', e2, ex⟩ := Option.map_eq_some_iff.mp ex
    cases ex
    obtain ⟨i, e3, rfl⟩ := Option.map_eq_some_iff.mp e2
    cases u with
    | int j =>
      cases e3
      refine ⟨M, U, st, env, _, _, er, e1, fun v H1 M1 p1 so1 r1 => ?_⟩
      cases r1.w.int
      exact ⟨_, rfl, EPost.op q p1 so1 (fun _ h => by cases h) _ _ grow0 (.int _)⟩
    | none => cases e3
    | bool b => cases e3
    | str b => cases e3
    | list b => cases e3
    | tuple b => cases e3
    | dict b => cases e3
theorem slr_more {K : PySem.W.Frag} {M M' : List Addr} {U : Addr → Prop} {H H' : Hp} {st : Sto} {a : Addr} (p : Stp M H M' H') (ap : ∀ a ∈ M, ¬ U a) (tr : ∀ a, U a → ∃ o, H a = some o) (ha : H a = none) (so : StoOk K M' (fun b => U b ∨ b = a) H' st) {sl : Slot} {o : Option V} (h : SltR K M U H sl o) :
    SltR K M' (fun b => U b ∨ b = a) H' sl o := by
  have kp : Keep (Bar M U) (Bar M' fun b => U b ∨ b = a) H H' := fun b o nb e => ⟨(p.keep b o nb e).1, fun z => by
    rcases z with z | z | z
    · exact (p.keep b o nb e).2 (.inl z)
    · exact (p.keep b o nb e).2 (.inr z)
    · subst z; rw [ha] at e; cases e⟩
  have ow : ∀ {b x}, U b → OwAt K (Bar M U) H H b x → OwAt K (Bar M' fun b => U b ∨ b = a) H' H' b x := fun {b x} u q => q.keep kp fun o e => p.fr b o (fun z => ap b z u) e
  cases sl with
  | no => trivial
  | sh x => obtain ⟨v, e, r⟩ := h; exact ⟨v, e, r.keep kp⟩
  | kt y => exact h.keep kp
  | ow x => obtain ⟨b, e, u, q⟩ := h; exact ⟨b, e, .inl u, ow u q⟩
  | lk x => obtain ⟨b, e, u, q⟩ := h; exact ⟨b, e, .inl u, ow u q⟩
  | rf n =>
    obtain ⟨b, e, q⟩ := h
    refine ⟨b, ?_, q⟩
    obtain ⟨t, rfl⟩ := p.pre
    rw [List.getElem?_append_left (List.getElem?_eq_some_iff.mp e).1]
    exact e
def andF (f : Ev → Sto → Option (D × Sto)) (g : Ev → Sto → Option (Vl × Sto)) (env : Ev) (st : Sto) : Option (Vl × Sto) := bnd (f env st) fun x s => bnd (ret (truD x) s) fun k s => if k then g env s else some (.d x, s)
def orF (f g : Ev → Sto → Option (Vl × Sto)) (env : Ev) (st : Sto) : Option (Vl × Sto) := bnd (f env st) fun w s => bnd (ret w.toD s) fun x s => bnd (ret (truD x) s) fun k s => if k then some (w, s) else g env s
theorem sem_next {K : PySem.W.Frag} {M M1 : List Addr} {U : Addr → Prop} {H H1 : Hp} {st s1 s2 : Sto} {σ : L2.St} {env : Ev} {g : Ev → Sto → Option (Vl × Sto)} {w : Vl} {Q : VK} (er : ER K M U H st σ env) (p : Stp M H M1 H1) (so : StoOk K M1 U H1 s1) (e : g env s1 = some (w, s2)) (q : EPost K M U H s2 w Q) :
    SemE K g σ H1 Q := ⟨M1, U, s1, env, w, s2, er.step p so, e, by
  cases w with
  | d x => exact fun v H' M' p' so' r => q v H' M' (p.trans p') so' r
  | fr x =>
    intro a H' M' p' ha so' r
    have nM : a ∉ M := fun z => by
      obtain ⟨o, e⟩ := so.tracked a (Or.inl (p.mem z))
      rw [ha] at e; cases e
    exact q a H' M' (p.trans p') (p.none_of nM ha) so' r
  | rf n => exact fun a H' M' p' so' r => q a H' M' (p.trans p') so' r⟩
theorem se_and {rest : List Expr} {gE : Ev → Sto → Option (Vl × Sto)} (hx : PE X x (SemD X.K f)) (hy : PE X (.BoolOp .And (y :: rest) pos) (SemE X.K gE)) : PE X (.BoolOp .And (x :: y :: rest) pos) (SemE X.K (andF f gE)) :=
  peImp (pe_andT hx hy) fun σ H Q ⟨M, U, st, env, w, s, er, ex, q⟩ => by
    obtain ⟨u, s1, e1, ex⟩ := bnd_eq ex
    obtain ⟨k, s2, e2, ex⟩ := bnd_eq ex
    obtain ⟨e2x, rfl⟩ := ret_eq e2
    refine ⟨M, U, st, env, u, _, er, e1, fun v H1 M1 p1 so1 r1 => ⟨k, truV (.inl r1) e2x, ?_⟩⟩
    cases k with
    | true => exact sem_next er p1 so1 ex q
    | false => cases ex; exact q v H1 M1 p1 so1 r1
theorem se_or {rest : List Expr} {fE gE : Ev → Sto → Option (Vl × Sto)} (hx : PE X x (SemE X.K fE)) (hy : PE X (.BoolOp .Or (y :: rest) pos) (SemE X.K gE)) : PE X (.BoolOp .Or (x :: y :: rest) pos) (SemE X.K (orF fE gE)) :=
  peImp (pe_orT hx hy) fun σ H Q ⟨M, U, st, env, w, s, er, ex, q⟩ => by
    obtain ⟨u, s1, e1, ex⟩ := bnd_eq ex
    obtain ⟨t, s2, e2, ex⟩ := bnd_eq ex
    obtain ⟨e2x, rfl⟩ := ret_eq e2
    obtain ⟨k, s3, e4, ex⟩ := bnd_eq ex
    obtain ⟨e4x, rfl⟩ := ret_eq e4
    refine ⟨M, U, st, env, u, _, er, e1, ?_⟩
    cases u with
    | rf n => cases e2x
    | d y =>
      cases e2x
      refine fun v H1 M1 p1 so1 r1 => ⟨k, truV (.inl r1) e4x, ?_⟩
      cases k with
      | true => cases ex; exact q v H1 M1 p1 so1 r1
      | false => exact sem_next er p1 so1 ex q
    | fr y =>
      cases e2x
      refine fun a H1 M1 p1 ha so1 ow => ⟨k, truV (.inr ⟨a, rfl, ow⟩) e4x, ?_⟩
      cases k with
      | true => cases ex; exact q a H1 M1 p1 ha so1 ow
      | false => exact sem_next er p1 (so1.less fun b z => .inl z) ex q
theorem se_one {op : BoolOp} {fE : Ev → Sto → Option (Vl × Sto)} (hx : PE X x (SemE X.K fE)) : PE X (.BoolOp op [x] pos) (SemE X.K fE) := pe_one hx
theorem se_not (hx : PE X x (SemB X.K f)) : PE X (.UnaryOp .Not x pos) (SemE X.K fun env st => bnd (tru (f env st)) fun k s => some (.d (.bool (!k)), s)) :=
  peImp (pe_notT hx) fun σ H Q ⟨M, U, st, env, w, s, er, ex, q⟩ => by
    obtain ⟨k, s1, e1, ex⟩ := bnd_eq ex
    obtain ⟨u, s2, e2, e3⟩ := bnd_eq e1
    obtain ⟨e3x, rfl⟩ := ret_eq e3
    cases ex
    exact ⟨M, U, st, env, u, _, er, e2, fun v H1 M1 p1 so1 r1 => ⟨k, truV r1.w e3x, EPost.op q p1 so1 (fun _ h => by cases h) _ _ grow0 (.bl _)⟩⟩
theorem se_ite {c : Expr} {t : Ev → Sto → Option (Bool × Sto)} {fE gE : Ev → Sto → Option (Vl × Sto)} (hc : PT X c (SemT X.K t)) (hx : PE X x (SemE X.K fE)) (hy : PE X y (SemE X.K gE)) :
    PE X (.IfExp c x y pos) (SemE X.K fun env st => bnd (t env st) fun k s => if k then fE env s else gE env s) := peImp (pe_ifExp hc hx hy) fun σ H Q ⟨M, U, st, env, w, s, er, ex, q⟩ => by
  obtain ⟨k, s1, e1, ex⟩ := bnd_eq ex
  refine ⟨M, U, st, env, k, s1, er, e1, fun H1 M1 p1 so1 => ?_⟩
  cases k with
  | true => exact sem_next er p1 so1 ex q
  | false => exact sem_next er p1 so1 ex q
theorem st_not {t : Ev → Sto → Option (Bool × Sto)} (hx : PT X x (SemT X.K t)) : PT X (.UnaryOp .Not x pos) (SemT X.K fun env st => tru (toD (bnd (t env st) fun k s => some (.d (.bool (!k)), s)))) :=
  ptImp (pt_not hx) fun σ H Q ⟨M, U, st, env, b, s, er, ex, q⟩ => by
    obtain ⟨u, s1, e1, ex⟩ := bnd_eq ex
    obtain ⟨w, s2, e2, e3⟩ := bnd_eq e1
    obtain ⟨k, s3, e4, e5⟩ := bnd_eq e2
    cases e5
    cases e3
    cases ex
    exact ⟨M, U, st, env, k, _, er, e4, q⟩
theorem pwImp {e : Expr} {t t' : TT} (h : PW X e t) (f : ∀ σ H Q, t' σ H Q → t σ H Q) : PW X e t' := ⟨fun wh pins s σ H Q I q => h.run wh pins s σ H Q I (f σ H Q q)⟩
theorem sw_and {rest : List Expr} {gE : Ev → Sto → Option (Vl × Sto)} {t u : Ev → Sto → Option (Bool × Sto)} (ht : ∀ env st x k s1 s2, f env st = some (x, s1) → ret (truD x) s1 = some (k, s2) → t env st = some (k, s2)) (hu : ∀ env st k s, tru (toD (gE env st)) = some (k, s) → u env st = some (k, s))
    (hx : PT X x (SemT X.K t)) (hy : PW X (.BoolOp .And (y :: rest) pos) (SemT X.K u)) : PW X (.BoolOp .And (x :: y :: rest) pos) (SemT X.K fun env st => tru (toD (andF f gE env st))) :=
  pwImp (pw_and hx hy) fun σ H Q ⟨M, U, st, env, b, s, er, ex, q⟩ => by
    obtain ⟨v, s1, e1, ex⟩ := bnd_eq ex
    obtain ⟨w, s2, e2, e3⟩ := bnd_eq e1
    obtain ⟨x1, s3, e4, e5⟩ := bnd_eq e2
    obtain ⟨k, s4, e6, e7⟩ := bnd_eq e5
    refine ⟨M, U, st, env, k, s4, er, ht _ _ _ _ _ _ e4 e6, fun H1 M1 p1 so1 => ?_⟩
    cases k with
    | true =>
      rw [if_pos rfl] at e7
      refine ⟨M1, U, s4, env, b, s, er.step p1 so1, hu _ _ _ _ ?_, fun H2 M2 p2 so2 => q H2 M2 (p1.trans p2) so2⟩
      show bnd (bnd (gE env s4) fun w s => w.toD.map fun x => (x, s)) (fun x s => ret (truD x) s) = _
      rw [e7]
      show bnd (w.toD.map fun x => (x, s2)) (fun x s => ret (truD x) s) = _
      rw [e3]
      exact ex
    | false =>
      cases e7
      cases e3
      obtain ⟨e6x, rfl⟩ := ret_eq e6
      obtain ⟨e9, rfl⟩ := ret_eq ex
      rw [e6x] at e9
      cases e9
      exact q H1 M1 p1 so1
theorem sw_or {rest : List Expr} {fE gE : Ev → Sto → Option (Vl × Sto)} {t u : Ev → Sto → Option (Bool × Sto)} (ht : ∀ env st k s, tru (toD (fE env st)) = some (k, s) → t env st = some (k, s)) (hu : ∀ env st k s, tru (toD (gE env st)) = some (k, s) → u env st = some (k, s))
    (hx : PT X x (SemT X.K t)) (hy : PW X (.BoolOp .Or (y :: rest) pos) (SemT X.K u)) : PW X (.BoolOp .Or (x :: y :: rest) pos) (SemT X.K fun env st => tru (toD (orF fE gE env st))) :=
  pwImp (pw_or hx hy) fun σ H Q ⟨M, U, st, env, b, s, er, ex, q⟩ => by
    obtain ⟨v, s1, e1, ex⟩ := bnd_eq ex
    obtain ⟨w, s2, e2, e3⟩ := bnd_eq e1
    obtain ⟨w1, s3, e4, e5⟩ := bnd_eq e2
    obtain ⟨x1, s4, e6, e7⟩ := bnd_eq e5
    obtain ⟨e8, rfl⟩ := ret_eq e6
    obtain ⟨k, s5, e10, e11⟩ := bnd_eq e7
    have et : t env st = some (k, s5) := ht _ _ _ _ (by
      show bnd (bnd (fE env st) fun w s => w.toD.map fun x => (x, s)) (fun x s => ret (truD x) s) = _
      rw [e4]
      show bnd (w1.toD.map fun x => (x, s3)) (fun x s => ret (truD x) s) = _
      rw [e8]
      exact e10)
    refine ⟨M, U, st, env, k, s5, er, et, fun H1 M1 p1 so1 => ?_⟩
    obtain ⟨e12, rfl⟩ := ret_eq e10
    cases k with
    | false =>
      rw [if_neg Bool.false_ne_true] at e11
      refine ⟨M1, U, _, env, b, s, er.step p1 so1, hu _ _ _ _ ?_, fun H2 M2 p2 so2 => q H2 M2 (p1.trans p2) so2⟩
      show bnd (bnd (gE env s3) fun w s => w.toD.map fun x => (x, s)) (fun x s => ret (truD x) s) = _
      rw [e11]
      show bnd (w.toD.map fun x => (x, s2)) (fun x s => ret (truD x) s) = _
      rw [e3]
      exact ex
    | true =>
      cases e11
      rw [e8] at e3
      cases e3
      obtain ⟨e14, rfl⟩ := ret_eq ex
      rw [e12] at e14
      cases e14
      exact q H1 M1 p1 so1
end
end Pi

end
section
set_option Elab.async false
set_option linter.all false
set_option maxRecDepth 100000
set_option maxHeartbeats 1000000
namespace Pi
open PySem PySem.Spec PyProof.Rows L2
section
variable {X : Cx} {x y z : Expr} {pos : Pos} {f g h : Ev → Sto → Option (D × Sto)}
theorem atI_rp {K : PySem.W.Frag} {B : Addr → Prop} {H : Hp} {vs : List V} {ds : List D} (r : RpAll K B H vs ds) {i : Int} {d : D} (e : at? ds i = some d) : ∃ v, atI vs i = some v ∧ Rp K B H v d := by
  obtain ⟨j, e1, e2⟩ := Option.bind_eq_some_iff.mp (show (ixN ds.length i).bind (fun j => ds[j]?) = some d from e)
  obtain ⟨v, e3, rv⟩ := r.get e2
  refine ⟨v, ?_, rv⟩
  show (ixN vs.length i).bind (fun j => vs[j]?) = some v
  rw [r.length, e1]
  exact e3
def ixV (x y : D) : Option Vl := (ixD x y).map .d
theorem ixD_cases {u v d : D} (e : ixD u v = some d) : (∃ xs i, u = .list xs ∧ v = .int i ∧ at? xs i = some d) ∨ (∃ xs i, u = .tuple xs ∧ v = .int i ∧ at? xs i = some d) ∨ (∃ z i c, u = .str z ∧ v = .int i ∧ z.length ≤ SL ∧ atI z.cps.toList i = some c ∧ d = .str ⟨#[c]⟩) ∨ ∃ ds, u = .dict ds ∧ dget ds v = some (some d) := by
  unfold ixD at e
  split at e
  · exact .inl ⟨_, _, rfl, rfl, e⟩
  · exact .inr (.inl ⟨_, _, rfl, rfl, e⟩)
  · split at e
    · obtain ⟨c, e1, e2⟩ := Option.map_eq_some_iff.mp e
      exact .inr (.inr (.inl ⟨_, _, c, rfl, rfl, ‹_›, e1, e2.symm⟩))
    · cases e
  · obtain ⟨o, e1, e2⟩ := Option.bind_eq_some_iff.mp e
    obtain rfl : o = some d := e2
    exact .inr (.inr (.inr ⟨_, rfl, e1⟩))
  · cases e
theorem ix_P (hu : X.A.units + 1 < cLine) : IxR X (rOp X.K ixV) := by
  intro ve vs' pins s σ H v u vv uu Q I rx ry ⟨B, a, b, w, tr, hx, hy, e, q⟩ hsub
  obtain ⟨d, e1, e⟩ := Option.map_eq_some_iff.mp e
  cases e
  rcases ixD_cases e1 with ⟨xs, i, rfl, rfl, e2⟩ | ⟨xs, i, rfl, rfl, e2⟩ | ⟨z, i, c, rfl, rfl, hz, e2, rfl⟩ | ⟨ds, rfl, e2⟩
  · obtain ⟨p, vs, rfl, hp, rp⟩ := hx.list
    cases hy.int
    obtain ⟨t, e3, rt⟩ := atI_rp rp e2
    exact ix_list ve vs' pins s σ H _ _ _ _ Q I rx ry ⟨p, vs, i, t, rfl, rfl, hp, e3, q _ _ grow0 rt⟩ hsub
  · obtain ⟨p, vs, rfl, hp, rp, _⟩ := hx.tuple
    cases hy.int
    obtain ⟨t, e3, rt⟩ := atI_rp rp e2
    exact ix_tup ve vs' pins s σ H _ _ _ _ Q I rx ry ⟨p, vs, i, t, rfl, rfl, hp, e3, q _ _ grow0 rt⟩ hsub
  · cases hx.str
    cases hy.int
    exact ix_str ve vs' pins s σ H _ _ _ _ Q I rx ry ⟨z, i, c, rfl, rfl, SL_le hz, e2, q _ _ grow0 (.str _)⟩ hsub
  · obtain ⟨a, o', rfl, g, ro⟩ := dg_of hx hy e2
    obtain rfl : vv = Value.ref a := rx
    cases o' with
    | none => exact ro.elim
    | some v' =>
      obtain ⟨t1, _, _⟩ := isD_at I (dg_isD g)
      exact tail_any t1 PySem.F.slot_dict_getitem.lookup (dg_getItem hu I g ry fun w' s' I' rw' => ⟨v', H, I', rw', q _ _ grow0 ro⟩) hsub
theorem se_ix (hu : X.A.units + 1 < cLine) (n : nice y = true) (hx : PE X x (SemB X.K f)) (hy : PE X y (SemB X.K g)) : PE X (.Subscript x y pos) (SemE X.K fun env st => bnd (f env st) fun u s => bnd (g env s) fun v s' => ret ((ixD u v).map .d) s') :=
  peImp (pe_ix (ix_P hu) hx hy (plainIx n)) (sem_op fun u v w h n e => by
    subst e
    obtain ⟨d, _, e⟩ := Option.map_eq_some_iff.mp h
    cases e)
theorem se_bx {i : Nat} {nm : Str} {npos : Pos} (hN : X.N[i]? = some nm) (hv : Vis X.env.scope nm) (hd : (nm == ("__debug__" : Str)) = false) (hcd : (nm == ("__classdict__" : Str)) = false) (n : nice y = true) (hy : PE X y (SemB X.K g)) :
    PE X (.Subscript (.Name nm npos) y pos) (SemE X.K fun env st => bnd (g env st) fun y s => (match look env i with
    | .rf n => ret ((s[n]?).bind fun xs => (ixD (.list xs) y).map .d) s
    | _ => none)) := peImp (pe_ix ix_list (pe_var hN hv hd hcd) hy (plainIx n)) fun σ H Q ⟨M, U, st, env, w, s, er, ex, q⟩ => by
  obtain ⟨v, s1, e1, ex⟩ := bnd_eq ex
  have h := er.env i
  cases hl : look env i with
  | rf n =>
    rw [hl] at h ex
    obtain ⟨e2, rfl⟩ := ret_eq ex
    obtain ⟨xs, e3, e4⟩ := Option.bind_eq_some_iff.mp e2
    obtain ⟨d, e5, e6⟩ := Option.map_eq_some_iff.mp e4
    subst e6
    obtain ⟨a, e7, e8⟩ := h
    refine ⟨_, join_some e8, M, U, st, env, v, _, er, e1, fun u H1 M1 p1 so1 r1 => ?_⟩
    obtain ⟨b, vs, g1, g2, g3⟩ := so1.box n xs e3
    have : M1[n]? = some a := by
      obtain ⟨t, e⟩ := p1.pre
      rw [← e, List.getElem?_append_left (List.getElem?_eq_some_iff.mp e7).1]
      exact e7
    rw [this] at g1
    cases g1
    cases v with
    | int j =>
      cases r1.w.int
      obtain ⟨t, e9, rt⟩ := atI_rp g3 (show at? xs j = some d from e5)
      exact ⟨a, vs, j, t, rfl, rfl, .inl (.inl g2), e9, q _ H1 M1 p1 so1 rt⟩
    | none => cases e5
    | bool b => cases e5
    | str b => cases e5
    | list b => cases e5
    | tuple b => cases e5
    | dict b => cases e5
  | sh y => rw [hl] at ex; cases ex
  | no => rw [hl] at ex; cases ex
  | kt ys => rw [hl] at ex; cases ex
  | ow y => rw [hl] at ex; cases ex
  | lk y => rw [hl] at ex; cases ex
def SemO (K : PySem.W.Frag) (f : Ev → Sto → Option (Option Int × Sto)) : TO := fun σ H Q => ∃ M U st env o st', ER K M U H st σ env ∧ f env st = some (o, st') ∧ ∀ H' M', Stp M H M' H' → StoOk K M' U H' st' → Q o H'
theorem poImp {e : Option Expr} {t t' : TO} (h : PO X e t) (f : ∀ σ H Q, t' σ H Q → t σ H Q) : PO X e t' := ⟨fun pins s σ H Q I q => h.run pins s σ H Q I (f σ H Q q)⟩
theorem so_no : PO X none (SemO X.K fun _ st => some (none, st)) := poImp po_none fun σ H Q ⟨M, U, st, env, w, s, er, ex, q⟩ => by
  cases ex
  exact q H M Stp.refl er.sto
theorem so_yes (hx : PE X x (SemB X.K f)) : PO X (some x) (SemO X.K fun env st => bnd (f env st) fun x s => ret ((asInt x).map some) s) := poImp (po_some hx) fun σ H Q ⟨M, U, st, env, w, s, er, ex, q⟩ => by
  obtain ⟨u, s1, e1, ex⟩ := bnd_eq ex
  obtain ⟨e2, rfl⟩ := ret_eq ex
  obtain ⟨i, e3, rfl⟩ := Option.map_eq_some_iff.mp e2
  cases u with
  | int j =>
    cases e3
    refine ⟨M, U, st, env, _, _, er, e1, fun v H1 M1 p1 so1 r1 => ?_⟩
    cases r1.w.int
    exact ⟨_, rfl, q H1 M1 p1 so1⟩
  | none => cases e3
  | bool b => cases e3
  | str b => cases e3
  | list b => cases e3
  | tuple b => cases e3
  | dict b => cases e3
def rSlP (K : PySem.W.Frag) : V → Option Int → Option Int → Hp → VK → Prop := fun v lo hi H Q => ∃ B x w, (∀ a, B a → ∃ o, H a = some o) ∧ RpW K B H v x ∧ slD x lo hi = some w ∧ OPost K B H w Q
theorem RpAll.cut {K : PySem.W.Frag} {B : Addr → Prop} {H : Hp} {vs : List V} {ds : List D} (r : RpAll K B H vs ds) (lo hi : Option Int) : RpAll K B H (cutV vs lo hi) (cutD ds lo hi) := by
  unfold cutV cutD
  rw [r.length]
  exact (r.drop _).take _
theorem sl_P : SlR X (rSlP X.K) := by
  intro pins s σ H v vv vl vu lo hi sl Q I rx hs pl pu ⟨B, x, w, tr, hx, e, q⟩
  cases x with
  | list xs =>
    cases e
    obtain ⟨a, vs, rfl, ha, ra⟩ := hx.list
    exact sl_list pins s σ H _ vv vl vu lo hi sl Q I rx hs pl pu ⟨a, vs, rfl, ha, fun p n => lstEnd (ra.cut lo hi) q n⟩
  | tuple xs =>
    cases e
    obtain ⟨a, vs, rfl, ha, ra, wa⟩ := hx.tuple
    refine Pk.sl_tupK pins s σ H _ vv vl vu lo hi sl Q I rx hs pl pu ⟨a, vs, rfl, ha, fun hw => ?_, fun _ => tupEnd tr (ra.cut lo hi) q⟩
    refine q _ _ grow0 ?_
    have : cutD xs lo hi = xs := by
      unfold cutD
      rw [ra.length] at hw
      rw [hw.1, hw.2]
      simp
    rw [this]
    exact wa
  | str z =>
    obtain ⟨hz, e⟩ := dec2 (show (if z.length ≤ SL then some (Vl.d (.str (cutS z lo hi))) else none) = some w from e)
    cases e
    cases hx.str
    exact sl_str pins s σ H _ vv vl vu lo hi sl Q I rx hs pl pu ⟨z, rfl, SL_le hz, q _ _ grow0 (.str _)⟩
  | none => cases e
  | bool b => cases e
  | int b => cases e
  | dict b => cases e
theorem se_sl {lo hi : Option Expr} {p2 : Pos} {l u : Ev → Sto → Option (Option Int × Sto)} (hx : PE X x (SemB X.K f)) (hl : PO X lo (SemO X.K l)) (hu : PO X hi (SemO X.K u)) :
    PE X (.Subscript x (.Slice lo hi none p2) pos) (SemE X.K fun env st => bnd (f env st) fun x s => bnd (l env s) fun l s1 => bnd (u env s1) fun h s2 => ret (slD x l h) s2) :=
  peImp (pe_slice sl_P hx hl hu) fun σ H Q ⟨M, U, st, env, w, s, er, ex, q⟩ => by
    obtain ⟨v, s1, e1, ex⟩ := bnd_eq ex
    obtain ⟨o1, s2, e2, ex⟩ := bnd_eq ex
    obtain ⟨o2, s3, e3, ex⟩ := bnd_eq ex
    obtain ⟨e4, rfl⟩ := ret_eq ex
    refine ⟨M, U, st, env, v, s1, er, e1, fun t H1 M1 p1 so1 r1 => ⟨M1, U, s1, env, o1, s2, er.step p1 so1, e2, fun H2 M2 p2 so2 => ⟨M2, U, s2, env, o2, _, (er.step p1 so1).step p2 so2, e3, fun H3 M3 p3 so3 => ?_⟩⟩⟩
    refine ⟨Bar M3 U, v, w, so3.tracked, ((r1.step p2 so1.ap).step p3 so2.ap).w, e4, EPost.op q (p1.trans (p2.trans p3)) so3 fun n hn => ?_⟩
    subst hn
    cases v <;> simp [slD] at e4
def F2.name : F2 → Str
  | .max => "max"
  | .min => "min"
theorem cr_f2 (hc : X.calm = true) {k : F2} : CallR X (.builtin (match k with | .max => "max" | .min => "min")) (rC2 X.K (f2D k)) := by
  intro pins s σ H xs us Q I r ⟨v, u, ev, B, x, y, w, tr, hx, hy, e, q⟩
  subst ev
  cases x <;> cases y <;> first | (cases k <;> cases e; done) | skip
  cases hx.int
  cases hy.int
  cases k with
  | max => cases e; exact call_max2 hc pins s σ H _ _ Q I r ⟨_, _, rfl, q _ _ grow0 (.int _)⟩
  | min => cases e; exact call_min2 hc pins s σ H _ _ Q I r ⟨_, _, rfl, q _ _ grow0 (.int _)⟩
theorem se_f2 {k : F2} {p : Pos} (hc : X.calm = true) (hg : Gl X k.name) (hm : X.mg k.name = none) (nx : nice x = true) (ny : nice y = true) (hx : PE X x (SemB X.K f)) (hy : PE X y (SemB X.K g)) :
    PE X (.Call (.Name k.name p) [x, y] [] pos) (SemE X.K fun env st => bnd (f env st) fun u s => bnd (g env s) fun v s' => ret (f2D k u v) s') := by
  have im : ∀ σ H Q, SemE X.K (fun env st => bnd (f env st) fun u s => bnd (g env s) fun v s' => ret (f2D k u v) s') σ H Q → tCB (rC2 X.K (f2D k)) (tCons (SemB X.K f) (tCons (SemB X.K g) tNil)) σ H Q := fun σ H Q h => by
    obtain ⟨M, U, st, env, u, s, er, e1, kk⟩ := sem_op (f := f2D k) (fun u v w h n e => by subst e; cases k <;> cases u <;> cases v <;> cases h) σ H Q h
    exact ⟨M, U, st, env, u, s, er, e1, fun v H' M' s1 so r => by
      obtain ⟨M2, U2, st2, env2, u2, s2, er2, e2, k2⟩ := kk v H' M' s1 so r
      exact ⟨M2, U2, st2, env2, u2, s2, er2, e2, fun v2 H2 M3 s3 so2 r2 => ⟨v, v2, rfl, k2 v2 H2 M3 s3 so2 r2⟩⟩⟩
  have s1 := star1 nx [y] X.env
  have s2 := star1 ny [] X.env
  have pa : PA X [x, y] (tCons (SemB X.K f) (tCons (SemB X.K g) tNil)) := pa_cons hx (pa_cons hy pa_nil s2) s1
  have pl : (backTo pos (starEach [y] X.env)).any (·.1) = false := by rw [s2]; rfl
  cases k with
  | max => exact peImp (pe_callB (id := "max") (cr_f2 (k := .max) hc) hg hm (by decide +kernel) pa (by decide +kernel) (by decide +kernel) s1 pl) im
  | min => exact peImp (pe_callB (id := "min") (cr_f2 (k := .min) hc) hg hm (by decide +kernel) pa (by decide +kernel) (by decide +kernel) s1 pl) im
def M1.name : M1 → Str
  | .join => "join" | .split => "split" | .count => "count" | .lcnt => "count" | .strip => "strip"
theorem rp_strs {K : PySem.W.Frag} {B : Addr → Prop} {H : Hp} : ∀ {vs : List V} {xs : List D} {ys : List Str}, RpAll K B H vs xs → strsD xs = some ys → vs = ys.map V.str
  | _, _, _, .nil, h => by cases h; rfl
  | _, _, _, .cons (d := d) h r, e => by
    cases d with
    | str x =>
      obtain ⟨ys, e1, rfl⟩ := Option.map_eq_some_iff.mp (show (strsD _).map (x :: ·) = some _ from e)
      cases h
      rw [rp_strs r e1]; rfl
    | _ => cases e
theorem se_dnew {t : Bool} : PE X (.Dict [] [] pos) (SemE X.K fun env st => some (.fr (.dict (if t then [(.tuple [], .none)] else [])), st)) := by
  cases t with
  | false =>
    refine peImp pe_dnewK fun σ H Q ⟨M, U, st, env, w, st', er, ex, q⟩ p hp => ?_
    cases ex
    have nM : p ∉ M := fun z => by
      obtain ⟨o, e⟩ := er.sto.tracked p (.inl z)
      rw [hp] at e; cases e
    have q' := EPost.op q Stp.refl er.sto (fun n z => nomatch z)
    exact q' p _ (growN hp) hp (.inl ⟨[], upd_same, .nil⟩)
  | true =>
    refine peImp pe_dnewT fun σ H Q ⟨M, U, st, env, w, st', er, ex, q⟩ p hp => ?_
    cases ex
    have q' := EPost.op q Stp.refl er.sto (fun n z => nomatch z)
    exact q' p _ (growN hp) hp (.inr ⟨[], [], rfl, upd_same, .nil⟩)
theorem find_at {α : Type} {p : α → Bool} {xs : List α} {j : Nat} (h : xs.findIdx? p = some j) : ∃ z, xs[j]? = some z ∧ p z = true ∧ ∀ (m : Nat) (z' : α), m < j → xs[m]? = some z' → p z' = false := by
  obtain ⟨h1, h2, h3⟩ := List.findIdx?_eq_some_iff_getElem.mp h
  refine ⟨xs[j], List.getElem?_eq_getElem h1, h2, fun m z' hm hz => ?_⟩
  obtain ⟨hl, rfl⟩ := List.getElem?_eq_some_iff.mp hz
  simpa using h3 m hm
end
end Pi

end
section
set_option Elab.async false
set_option linter.all false
set_option maxRecDepth 100000
set_option maxHeartbeats 1000000
namespace Pi
open PySem PySem.Spec PyProof.Rows L2
section
variable {X : Cx} {x y z : Expr} {pos : Pos} {f g h : Ev → Sto → Option (D × Sto)}
def Ty.name : Ty → String
  | .list => "list" | .tuple => "tuple" | .bool => "bool" | .int => "int" | .str => "str"
def Ty.id : Ty → Str
  | .list => "list" | .tuple => "tuple" | .bool => "bool" | .int => "int" | .str => "str"
def tyN : D → String
  | .none => "NoneType" | .bool _ => "bool" | .int _ => "int" | .str _ => "str" | .list _ => "list" | .tuple _ => "tuple" | .dict _ => "dict"
theorem tyX {K : PySem.W.Frag} {B : Addr → Prop} {H : Hp} {v : V} {u : D} (r : RpW K B H v u) (n : noDict u = true) : TyX K H v (.type (tyN u)) := by
  have sl : ∀ {a vs}, SqL K H a vs → TyX K H (.ref a) (.type "list") := fun {a vs} q => by
    rcases q with (q | ⟨o, q⟩) | ⟨o, its, n, q, c, _⟩
    · exact .base (.lst q)
    · exact .base (.frz q)
    · exact .kList q c
  have st : ∀ {a vs}, SqT K H a vs → TyX K H (.ref a) (.type "tuple") := fun {a vs} q => by
    rcases q with (q | ⟨o, q⟩) | ⟨o, its, n, q, c, _⟩
    · exact .base (.tup q)
    · exact .fTuple q
    · exact .kTuple q c
  cases u with
  | none => cases r.none; exact .base .non
  | bool b => cases r.bool; exact .base (.bl b)
  | int b => cases r.int; exact .base (.int b)
  | str b => cases r.str; exact .base (.str b)
  | list b => obtain ⟨a, vs, rfl, q, _⟩ := r.list; exact sl q
  | tuple b => obtain ⟨a, vs, rfl, q, _⟩ := r.tuple; exact st q
  | dict b => cases n
theorem kitB_ok (u : D) (n : noDict u = true) (t : Ty) : kitB (tyN u) t.name = some (isTy u t) := by
  cases u <;> first | (cases n; done) | skip
  all_goals cases t <;> (simp only [tyN, Ty.name, isTy]; decide +kernel)
theorem kitAny_ok {K : PySem.W.Frag} (u : D) (n : noDict u = true) : ∀ ts : List Ty, PySem.W.kitAny K (.type (tyN u)) (ts.map fun t => Value.type t.name) = some (ts.any (isTy u))
  | [] => rfl
  | t :: ts => by
    show PySem.W.kitAny K _ (Value.type t.name :: ts.map fun t => Value.type t.name) = some (isTy u t || ts.any (isTy u))
    refine kitAny_cons (kit_ty (kitB_ok u n t)) (fun e => ?_) fun e => ?_
    · rw [e]; exact kitAny_ok u n ts
    · rw [e]; rfl
theorem se_ty {t : Ty} {p : Pos} (hg : Gl X t.id) (hm : X.mg t.id = none) : PE X (.Name t.id p) (tC (.ty t.name)) := by
  cases t with
  | list => exact pe_bltn (u := .type "list") hg hm (by decide +kernel) rfl (by decide +kernel) (by decide +kernel)
  | tuple => exact pe_bltn (u := .type "tuple") hg hm (by decide +kernel) rfl (by decide +kernel) (by decide +kernel)
  | bool => exact pe_bltn (u := .type "bool") hg hm (by decide +kernel) rfl (by decide +kernel) (by decide +kernel)
  | int => exact pe_bltn (u := .type "int") hg hm (by decide +kernel) rfl (by decide +kernel) (by decide +kernel)
  | str => exact pe_bltn (u := .type "str") hg hm (by decide +kernel) rfl (by decide +kernel) (by decide +kernel)
inductive Tys (X : Cx) : List Ty → List Expr → Prop
  | nil : Tys X [] []
  | cons {t : Ty} {p : Pos} {ts : List Ty} {es : List Expr} : Gl X t.id → X.mg t.id = none → Tys X ts es → Tys X (t :: ts) (.Name t.id p :: es)
theorem sa_tys : ∀ {ts : List Ty} {es : List Expr}, Tys X ts es → PA X es (fun _ H Q => Q (ts.map fun t => V.ty t.name) H)
  | _, _, .nil => pa_nil
  | _, _, .cons hg hm r => pa_cons (se_ty hg hm) (sa_tys r) rfl
def isiF (ts : List Ty) (f : Ev → Sto → Option (D × Sto)) (env : Ev) (st : Sto) : Option (Vl × Sto) := bnd (f env st) fun x s => if noDict x then some (.d (.bool (ts.any (isTy x))), s) else none
theorem clsAll : ∀ ts : List Ty, Paired ClsV (ts.map fun t => V.ty t.name) (ts.map fun t => Value.type t.name)
  | [] => .nil
  | t :: ts => .cons (.ty _) (clsAll ts)
theorem isi_eq {ts : List Ty} {env : Ev} {st s : Sto} {w : Vl} (e : isiF ts f env st = some (w, s)) : ∃ u, f env st = some (u, s) ∧ noDict u = true ∧ w = .d (.bool (ts.any (isTy u))) := by
  obtain ⟨u, s1, e1, e2⟩ := bnd_eq e
  obtain ⟨n, e3⟩ := dec2 e2
  cases e3
  exact ⟨u, e1, n, rfl⟩
theorem se_isi1 {t : Ty} {p p2 : Pos} (hg : Gl X "isinstance") (hm : X.mg "isinstance" = none) (hg2 : Gl X t.id) (hm2 : X.mg t.id = none) (n : nice x = true) (hx : PE X x (SemB X.K f)) :
    PE X (.Call (.Name "isinstance" p) [x, .Name t.id p2] [] pos) (SemE X.K (isiF [t] f)) := by
  have s1 := star1 n [.Name t.id p2] X.env
  have pa : PA X [x, .Name t.id p2] (tCons (SemB X.K f) (tCons (tC (.ty t.name)) tNil)) := pa_cons hx (pa_cons (se_ty hg2 hm2) pa_nil rfl) s1
  refine peImp (pe_callB call_isi hg hm (by decide +kernel) pa (by decide +kernel) (by decide +kernel) s1 rfl) fun σ H Q ⟨M, U, st, env, w, s, er, ex, q⟩ => ?_
  obtain ⟨u, e1, nd, rfl⟩ := isi_eq ex
  refine ⟨M, U, st, env, u, s, er, e1, fun v H1 M1 p1 so1 r1 => ⟨v, .ty t.name, .type (tyN u), .type t.name, isTy u t, rfl, .ty _, tyX r1.w nd, kit_ty (kitB_ok u nd t), ?_⟩⟩
  have := EPost.op q p1 so1 (fun _ h => by cases h) (.bl (isTy u t)) H1 grow0
  refine this ?_
  rw [show [t].any (isTy u) = isTy u t by simp]
  exact .bl _
theorem se_isiT {ts : List Ty} {es : List Expr} {k : Nat} {p p2 : Pos} (hg : Gl X "isinstance") (hm : X.mg "isinstance" = none) (hts : Tys X ts es) (hl : ts.length ≤ SL) (n : nice x = true) (hx : PE X x (SemB X.K f)) :
    PE X (.Call (.Name "isinstance" p) [x, .Tuple es k p2] [] pos) (SemE X.K (isiF ts f)) := by
  have s1 := star1 n [.Tuple es k p2] X.env
  have pa := pa_cons hx (pa_cons (pe_tup (x1 := k) (pos := p2) (sa_tys hts)) pa_nil rfl) s1
  refine peImp (pe_callB call_isiT hg hm (by decide +kernel) pa (by decide +kernel) (by decide +kernel) s1 rfl) fun σ H Q ⟨M, U, st, env, w, s, er, ex, q⟩ => ?_
  obtain ⟨u, e1, nd, rfl⟩ := isi_eq ex
  refine ⟨M, U, st, env, u, s, er, e1, fun v H1 M1 p1 so1 r1 => ⟨by rw [List.length_map]; exact SL_le hl, fun pp np => ?_⟩⟩
  have nB : Keep (Bar M1 U) (Bar M1 U) H1 (upd H1 pp (.tup (ts.map fun t => V.ty t.name))) := keepN so1.tracked np
  have r2 : RpW X.K (Bar M1 U) (upd H1 pp (.tup (ts.map fun t => V.ty t.name))) v u := r1.w.keep nB fun a o h _ => growN np a o h
  exact ⟨v, pp, _, .type (tyN u), _, ts.any (isTy u), rfl, upd_same, clsAll ts, tyX r2 nd, kitAny_ok u nd ts, EPost.op q p1 so1 (fun _ h => by cases h) _ _ (growN np) (.bl _)⟩
def spF (K : PySem.W.Frag) (c : List Vl → Sto → Option (Vl × Sto)) (np : Nat) : Sp := fun vs H Q _ => vs.length = np ∧ ∃ M U st ws w st', StoOk K M U H st ∧ VsAll K M U H vs ws ∧ c ws st = some (w, st') ∧ EPost K M U H st' w Q
def KPost (K : PySem.W.Frag) (M : List Addr) (U : Addr → Prop) (H : Hp) (st' : Sto) (ys : List Str) (Q : VK) : Prop := ∀ p H' M', Stp M H M' H' → StoOk K M' U H' st' → KtAt M' U H' ys (some (.ref p)) → Q (.ref p) H'
def spT (K : PySem.W.Frag) (c : List Vl → Sto → Option (Vl × Sto)) (np : Nat) : Sp := fun vs H Q _ => vs.length = np ∧ ∃ M U st ws ys st', StoOk K M U H st ∧ VsAll K M U H vs ws ∧ c ws st = some (.d (.tuple (ys.map .str)), st') ∧ KPost K M U H st' ys Q
def SemK (K : PySem.W.Frag) (f : Ev → Sto → Option (Vl × Sto)) : TE := fun σ H Q => ∃ M U st env ys st', ER K M U H st σ env ∧ f env st = some (.d (.tuple (ys.map .str)), st') ∧ KPost K M U H st' ys Q
def KwOk (K : PySem.W.Frag) (fd : FuncData) (ps : List Str) (n : Nat) (ks : List Str) (pm : List Nat) : Prop :=
  ∀ (s : Shared) (us ws : List Value), K.In s.heap → us.length = n → ws.length = ks.length → ∃ zs, pick (us ++ ws) pm = some zs ∧ BindsTo s fd ⟨us, ks.zip ws⟩ (ps.zip zs)
section
variable {k : Nat} {fa : Addr} {fd : FuncData} {ps : List Str} {c : List Vl → Sto → Option (Vl × Sto)} {nm : Str} {p : Pos}
theorem sem_call {t : TA} {gA : Ev → Sto → Option (List Vl × Sto)} (np : ∀ ws st r, c ws st = some r → ws.length = ps.length) (σ : L2.St) (H : Hp) (Q : VK)
    (h : SemE X.K (fun env st => bnd (gA env st) fun ws s => c ws s) σ H Q) (im : ∀ σ H Q, SemA X.K gA σ H Q → t σ H Q) : tCall (spF X.K c ps.length) [] E0 t σ H Q := by
  obtain ⟨M, U, st, env, w, s, er, ex, q⟩ := h
  obtain ⟨ws, s1, e1, e2⟩ := bnd_eq ex
  refine im _ _ _ ⟨M, U, st, env, ws, s1, er, e1, fun vs H1 M1 p1 so1 r1 => ?_⟩
  show spF X.K c ps.length (vs ++ []) H1 Q E0
  rw [List.append_nil]
  refine ⟨by rw [r1.length, np _ _ _ e2], M1, U, s1, ws, w, s, so1, r1, e2, ?_⟩
  cases w with
  | d x => exact fun v H' M' p' so' r => q v H' M' (p1.trans p') so' r
  | fr x =>
    intro a H' M' p' ha so' r
    have nM : a ∉ M := fun z => by
      obtain ⟨o, e⟩ := so1.tracked a (Or.inl (p1.mem z))
      rw [ha] at e; cases e
    exact q a H' M' (p1.trans p') (p1.none_of nM ha) so' r
  | rf n => exact fun a H' M' p' so' r => q a H' M' (p1.trans p') so' r
theorem noStars : ∀ l : List Expr, (∀ e ∈ l, nice e = true) → ∀ pos : Pos, (backTo pos (starEach l X.env)).any (·.1) = false
  | [], _, _ => rfl
  | a :: l, h, pos => by
    rw [star1 (h a List.mem_cons_self) l X.env]
    show (false || (backTo pos (starEach l X.env)).any (·.1)) = false
    rw [noStars l (fun e he => h e (List.mem_cons_of_mem _ he)) pos]
    rfl
theorem se_call0 (F : FnOk X.prog X.w X.K X.mg X.base CX0 k fa fd ps (spF X.K c ps.length)) (hr : Room k X.A) (hg : Gl X nm) (hm : X.mg nm = some (.ref fa)) (hk : PySem.W.keepIn X.K (.ref fa) = true) (hb : Binds X.K fd ps [])
    (np : ∀ ws st r, c ws st = some r → ws.length = ps.length) (hdb : (nm == ("__debug__" : Str)) = false) :
    PE X (.Call (.Name nm p) [] [] pos) (SemE X.K fun env st => bnd (some ([], st)) fun ws s => c ws s) :=
  peImp (pe_call0 F hr hg hm hk hb .nil pass0 hdb) fun σ H Q h => sem_call np σ H Q h fun σ H Q ⟨M, U, st, env, ws, s, er, e1, q⟩ => by
    cases e1
    exact q [] H M Stp.refl er.sto .nil
theorem se_call {e : Expr} {es : List Expr} {gA : Ev → Sto → Option (List Vl × Sto)} (F : FnOk X.prog X.w X.K X.mg X.base CX0 k fa fd ps (spF X.K c ps.length)) (hr : Room k X.A) (hg : Gl X nm) (hm : X.mg nm = some (.ref fa)) (hk : PySem.W.keepIn X.K (.ref fa) = true) (hb : Binds X.K fd ps [])
    (np : ∀ ws st r, c ws st = some r → ws.length = ps.length) (hdb : (nm == ("__debug__" : Str)) = false) (hn : ∀ a ∈ e :: es, nice a = true) (ha : PA X (e :: es) (SemA X.K gA)) :
    PE X (.Call (.Name nm p) (e :: es) [] pos) (SemE X.K fun env st => bnd (gA env st) fun ws s => c ws s) :=
  peImp (pe_call F hr hg hm hk hb .nil pass0 ha hdb (star1 (hn e List.mem_cons_self) es X.env) (noStars es (fun a h => hn a (List.mem_cons_of_mem _ h)) pos)) fun σ H Q h => sem_call np σ H Q h fun σ H Q h => h
theorem sem_callT {t : TA} {gA : Ev → Sto → Option (List Vl × Sto)} (np : ∀ ws st r, c ws st = some r → ws.length = ps.length) (σ : L2.St) (H : Hp) (Q : VK)
    (h : SemK X.K (fun env st => bnd (gA env st) fun ws s => c ws s) σ H Q) (im : ∀ σ H Q, SemA X.K gA σ H Q → t σ H Q) : tCall (spT X.K c ps.length) [] E0 t σ H Q := by
  obtain ⟨M, U, st, env, ys, s, er, ex, q⟩ := h
  obtain ⟨ws, s1, e1, e2⟩ := bnd_eq ex
  refine im _ _ _ ⟨M, U, st, env, ws, s1, er, e1, fun vs H1 M1 p1 so1 r1 => ?_⟩
  show spT X.K c ps.length (vs ++ []) H1 Q E0
  rw [List.append_nil]
  exact ⟨by rw [r1.length, np _ _ _ e2], M1, U, s1, ws, ys, s, so1, r1, e2, fun p H' M' p' so' r => q p H' M' (p1.trans p') so' r⟩
theorem se_callT {e : Expr} {es : List Expr} {gA : Ev → Sto → Option (List Vl × Sto)} (F : FnOk X.prog X.w X.K X.mg X.base CX0 k fa fd ps (spT X.K c ps.length)) (hr : Room k X.A) (hg : Gl X nm) (hm : X.mg nm = some (.ref fa)) (hk : PySem.W.keepIn X.K (.ref fa) = true) (hb : Binds X.K fd ps [])
    (np : ∀ ws st r, c ws st = some r → ws.length = ps.length) (hdb : (nm == ("__debug__" : Str)) = false) (hn : ∀ a ∈ e :: es, nice a = true) (ha : PA X (e :: es) (SemA X.K gA)) :
    PE X (.Call (.Name nm p) (e :: es) [] pos) (SemK X.K fun env st => bnd (gA env st) fun ws s => c ws s) :=
  peImp (pe_call F hr hg hm hk hb .nil pass0 ha hdb (star1 (hn e List.mem_cons_self) es X.env) (noStars es (fun a h => hn a (List.mem_cons_of_mem _ h)) pos)) fun σ H Q h => sem_callT np σ H Q h fun σ H Q h => h
theorem vs_of_rp {K : PySem.W.Frag} {M : List Addr} {U : Addr → Prop} {H : Hp} : ∀ {vs : List V} {xs : List D}, RpAll K (Bar M U) H vs xs → VsAll K M U H vs (xs.map Vl.d)
  | _, _, .nil => .nil
  | _, _, .cons h r => .cons h (vs_of_rp r)
theorem semA_congr {es : List Expr} {f g : Ev → Sto → Option (List Vl × Sto)} (h : PA X es (SemA X.K f)) (e : f = g) : PA X es (SemA X.K g) := e ▸ h
def addS (f : Ev → Sto → Option (List Vl × Sto)) (b : Ev → Sto → Option (D × Sto)) : Ev → Sto → Option (List Vl × Sto) := fun env st => bnd (f env st) fun ws s => bnd (b env s) fun x s1 => bnd (ret (items x) s1) fun xs s2 => some (ws ++ xs.map Vl.d, s2)
end
end
section
variable {X : Cx} {l : List Expr} {z e : Expr} {es : List Expr} {lp sp pos : Pos} {refs : List V} {tz : TE} {tA : TA}
end
section
variable {X : Cx} {l : List Expr} {z e : Expr} {es : List Expr} {lp sp pos : Pos} {refs : List V}
end
end Pi

end
section
set_option Elab.async false
set_option linter.all false
set_option maxRecDepth 100000
set_option maxHeartbeats 1000000
namespace Pi
open PySem PySem.Spec PyProof.Rows L2
def Lat (M0 : List Addr) (U Z : Addr → Prop) (H0 : Hp) (M' : List Addr) (U' : Addr → Prop) (H : Hp) : Prop :=
  (∀ a ∈ M', a ∈ M0 ∨ H0 a = none) ∧ (∀ a, U' a → U a ∨ H0 a = none) ∧ (∀ a, Bar M' U' a → ∃ o, H a = some o) ∧
    ∃ W0 : Addr → Prop, (∀ a, W0 a → U a) ∧ (∀ a, Z a → ¬ W0 a) ∧ ∀ a o, a ∉ M0 → ¬ W0 a → H0 a = some o → H a = some o
structure WD (K : PySem.W.Frag) (M0 : List Addr) (U Z : Addr → Prop) (H0 : Hp) (J : L2.It) (xs : List D) : Prop where
  go : ∀ M' U' H i, Lat M0 U Z H0 M' U' H → i < xs.length → J.go i H
  stop : ∀ M' U' H, Lat M0 U Z H0 M' U' H → J.stop xs.length H
  yld : ∀ M' U' H i x H', Lat M0 U Z H0 M' U' H → i < xs.length → J.yld i H x H' → ∃ d, xs[i]? = some d ∧ (∀ a o, H a = some o → H' a = some o) ∧ Rp K (Bar M' U') H' x d
def SemIZ (z : L2.St → Ev → Addr → Prop) (K : PySem.W.Frag) (g : Ev → Sto → Option (List D × Sto)) : TI := fun σ H R => ∃ M U st env xs st', ER K M U H st σ env ∧ g env st = some (xs, st') ∧
  ∀ J H' M', Stp M H M' H' → StoOk K M' U H' st' → WD K M' U (z σ env) H' J xs → R J H'
section
variable {K : PySem.W.Frag} {M M' : List Addr} {U U' Z : Addr → Prop} {H H' : Hp} {st : Sto}
theorem Lat.keep (l : Lat M U Z H M' U' H') : Keep (Bar M U) (Bar M' U') H H' := fun a o n e => by
  obtain ⟨l1, l2, l3, W0, w1, w2, w3⟩ := l
  have nm : a ∉ M := fun z => n (.inl z)
  have nu : ¬ U a := fun z => n (.inr z)
  refine ⟨w3 a o nm (fun z => nu (w1 a z)) e, fun z => ?_⟩
  rcases z with z | z
  · rcases l1 a z with q | q
    · exact nm q
    · rw [q] at e; cases e
  · rcases l2 a z with q | q
    · exact nu q
    · rw [q] at e; cases e
theorem RpU.listL (so : StoOk K M U H st) {v : V} {xs : List D} (r : RpU K M U Z H v (.list xs)) : ∃ a vs, v = .ref a ∧ SqL K H a vs ∧ RpAll K (Bar M U) H vs xs ∧ ∀ M' U' H', Lat M U Z H M' U' H' → SqL K H' a vs := by
  rcases r with r | ⟨a, rfl, ⟨u, z⟩, vs, e, r⟩
  · cases r with
    | lst h r => exact ⟨_, _, rfl, h.sq, r, fun M' U' H' l => (h.keep l.keep).sq⟩
  · refine ⟨a, vs, rfl, .inl (.inl e), r, fun M' U' H' l => ?_⟩
    obtain ⟨l1, l2, l3, W0, w1, w2, w3⟩ := l
    exact .inl (.inl (w3 a _ (fun q => so.ap a q u) (w2 a z) e))
theorem RpU.tupL {v : V} {xs : List D} (r : RpU K M U Z H v (.tuple xs)) : ∃ a vs, v = .ref a ∧ SqT K H a vs ∧ RpAll K (Bar M U) H vs xs ∧ ∀ M' U' H', Lat M U Z H M' U' H' → SqT K H' a vs := by
  rcases r with r | ⟨a, rfl, ⟨u, z⟩, h⟩
  · cases r with
    | tup h r => exact ⟨_, _, rfl, h.sq, r, fun M' U' H' l => (h.keep l.keep).sq⟩
  · exact h.elim
theorem WD.at {J : L2.It} {vs : List V} {xs : List D} {G : Hp → Prop} (w : Walk J vs.length G (YAt vs)) (r : RpAll K (Bar M U) H vs xs) (g : ∀ M' U' H', Lat M U Z H M' U' H' → G H') : WD K M U Z H J xs where
  go := fun M' U' H' i l hi => w.goes i H' (by rw [r.length]; exact hi) (g _ _ _ l)
  stop := fun M' U' H' l => by rw [← r.length]; exact w.stops H' (g _ _ _ l)
  yld := fun M' U' H1 i x H2 l hi y => by
    obtain ⟨rfl, e⟩ := w.yields i H1 x H2 (by rw [r.length]; exact hi) (g _ _ _ l) y
    obtain ⟨d, e2, rd⟩ := r.getV e
    exact ⟨d, e2, fun _ _ h => h, rd.keep l.keep⟩
theorem WD.fn {J : L2.It} {n : Nat} {F : Nat → V} {xs : List D} {G : Hp → Prop} (w : Walk J n G (YFn F)) (hn : xs.length = n) (r : ∀ B H i, i < n → ∃ d, xs[i]? = some d ∧ Rp K B H (F i) d) (g : ∀ H', G H') : WD K M U Z H J xs where
  go := fun M' U' H' i l hi => w.goes i H' (by omega) (g _)
  stop := fun M' U' H' l => by rw [hn]; exact w.stops H' (g _)
  yld := fun M' U' H1 i x H2 l hi y => by
    obtain ⟨rfl, rfl⟩ := w.yields i H1 x H2 (by omega) (g _) y
    obtain ⟨d, e2, rd⟩ := r (Bar M' U') H2 i (by omega)
    exact ⟨d, e2, fun _ _ h => h, rd⟩
theorem WD.pair {J : L2.It} {n : Nat} {p q : Nat → Option V} {xs : List D} {G : Hp → Prop} (w : Walk J n G (Pk.YPairK p q)) (hn : xs.length = n)
    (r : ∀ i x y, i < n → p i = some x → q i = some y → ∃ c d, xs[i]? = some (.tuple [c, d]) ∧ Rp K (Bar M U) H x c ∧ Rp K (Bar M U) H y d) (g : ∀ M' U' H', Lat M U Z H M' U' H' → G H') : WD K M U Z H J xs where
  go := fun M' U' H' i l hi => w.goes i H' (by omega) (g _ _ _ l)
  stop := fun M' U' H' l => by rw [hn]; exact w.stops H' (g _ _ _ l)
  yld := fun M' U' H1 i x H2 l hi y => by
    obtain ⟨T, a, b, o, rfl, nT, ho, rfl, e1, e2⟩ := w.yields i H1 x H2 (by omega) (g _ _ _ l) y
    obtain ⟨c, d, e3, ra, rb⟩ := r i a b (by omega) e1 e2
    obtain ⟨_, _, tr, _⟩ := id l
    have kp := keepN (o := tuO o [a, b]) tr nT
    exact ⟨_, e3, growN nT, .tup (.inl ⟨notB tr nT, o, ho, upd_same⟩) (.cons ((ra.keep l.keep).keep kp) (.cons ((rb.keep l.keep).keep kp) .nil))⟩
end
theorem enumD_at : ∀ (xs : List D) (k i : Nat), (enumD k xs)[i]? = (xs[i]?).map fun x => .tuple [.int ((k + i : Nat) : Int), x]
  | [], k, i => by simp [enumD]
  | x :: xs, k, 0 => by simp [enumD]
  | x :: xs, k, i + 1 => by
    show (enumD (k + 1) xs)[i]? = _
    rw [enumD_at xs (k + 1) i, show k + 1 + i = k + (i + 1) by omega]
    simp
theorem enumD_len : ∀ (xs : List D) (k : Nat), (enumD k xs).length = xs.length
  | [], _ => rfl
  | _ :: xs, k => congrArg (· + 1) (enumD_len xs (k + 1))
theorem zipD_at : ∀ (xs ys : List D) (i : Nat) (x y : D), xs[i]? = some x → ys[i]? = some y → (zipD xs ys)[i]? = some (.tuple [x, y])
  | [], _, _, _, _, h, _ => by simp at h
  | _ :: _, [], _, _, _, _, h => by simp at h
  | a :: xs, b :: ys, 0, x, y, h, h' => by simp at h h'; subst h; subst h'; rfl
  | a :: xs, b :: ys, i + 1, x, y, h, h' => zipD_at xs ys i x y (by simpa using h) (by simpa using h')
theorem zipD_len : ∀ (xs ys : List D), (zipD xs ys).length = min xs.length ys.length
  | [], ys => by simp [zipD]
  | _ :: _, [] => by simp [zipD]
  | _ :: xs, _ :: ys => by simp [zipD, zipD_len xs ys]
open Pk in
theorem walk_zipG {K : PySem.W.Frag} {p q : Bool} {a b : Addr} {xs ys : List V} {n : Nat} (hn : n = min xs.length ys.length) : Walk (ItzG K p q a b) n (fun H => SqG K p H a xs ∧ SqG K q H b ys) (Pk.YPairK (fun i => xs[i]?) (fun i => ys[i]?)) := by
  subst hn
  refine ⟨fun i _ hi z => ?_, fun _ z => ⟨xs, ys, z.1, z.2, rfl⟩, fun i H v H' _ z y => ?_⟩
  · have h1 : i < xs.length := by omega
    have h2 : i < ys.length := by omega
    exact ⟨xs, ys, xs[i], ys[i], z.1, z.2, by simp [h1], by simp [h2]⟩
  · obtain ⟨T, x, w, o, h1, h2, h0, h3, h4, h5⟩ := y
    exact ⟨T, x, w, o, h1, h2, h0, h3, h4 xs z.1, h5 ys z.2⟩
open Pk in
theorem walk_enumG {K : PySem.W.Frag} {p : Bool} {a : Addr} {xs : List V} : Walk (IteG K p a) xs.length (fun H => SqG K p H a xs) (Pk.YPairK (fun i => some (.int (i : Nat))) (fun i => xs[i]?)) := by
  refine ⟨fun i _ hi z => ⟨xs, xs[i], z, by simp [hi]⟩, fun _ z => ⟨xs, z, rfl⟩, fun i H v H' _ z y => ?_⟩
  obtain ⟨T, x, o, h1, h2, h0, h3, h4⟩ := y
  exact ⟨T, .int (i : Nat), x, o, h1, h2, h0, h3, rfl, h4 xs z⟩
theorem RpU.seqL {K : PySem.W.Frag} {M : List Addr} {U Z : Addr → Prop} {H : Hp} {st : Sto} (so : StoOk K M U H st) {v : V} {x : D} {xs : List D} (r : RpU K M U Z H v x) (e : items x = some xs) :
    ∃ p a vs, v = .ref a ∧ Pk.SqG K p H a vs ∧ RpAll K (Bar M U) H vs xs ∧ ∀ M' U' H', Lat M U Z H M' U' H' → Pk.SqG K p H' a vs := by
  cases x with
  | list ys =>
    cases e
    obtain ⟨a, vs, h1, h2, h3, h4⟩ := r.listL so
    exact ⟨false, a, vs, h1, h2, h3, h4⟩
  | tuple ys =>
    cases e
    obtain ⟨a, vs, h1, h2, h3, h4⟩ := r.tupL
    exact ⟨true, a, vs, h1, h2, h3, h4⟩
  | _ => cases e
section
variable {X : Cx} {x y tg : Expr} {pos : Pos} {f g h : Ev → Sto → Option (D × Sto)} {z : L2.St → Ev → Addr → Prop}
theorem piImp {t t' : TI} (hp : PI X tg x t) (f : ∀ σ H Q, t' σ H Q → t σ H Q) : PI X tg x t' := ⟨fun pins s σ H Q I q => hp.run pins s σ H Q I (f σ H Q q)⟩
theorem piOr {t t' : TI} (hp : PI X tg x t) (hq : PI X tg x t') : PI X tg x (fun σ H R => t σ H R ∨ t' σ H R) := ⟨fun pins s σ H Q I q => q.elim (hp.run pins s σ H Q I) (hq.run pins s σ H Q I)⟩
theorem si_of (hx : PE X x (SemBZ z X.K f)) : PI X tg x (SemIZ z X.K fun env st => bnd (f env st) fun x s => ret (walkD x) s) :=
  piImp (piOr (pi_list hx) (piOr (pi_tup hx) (pi_str hx))) fun σ H R ⟨M, U, st, env, xs, s, er, ex, q⟩ => by
    obtain ⟨u, s1, e1, ex⟩ := bnd_eq ex
    obtain ⟨e2, rfl⟩ := ret_eq ex
    cases u with
    | list ds =>
      cases e2
      refine .inl ⟨M, U, st, env, _, _, er, e1, fun v H1 M1 p1 so1 r1 => ?_⟩
      obtain ⟨a, vs, rfl, ha, ra, la⟩ := r1.listL so1
      exact ⟨a, rfl, ⟨vs, ha⟩, q _ H1 M1 p1 so1 (WD.at walk_list ra la)⟩
    | tuple ds =>
      cases e2
      refine .inr (.inl ⟨M, U, st, env, _, _, er, e1, fun v H1 M1 p1 so1 r1 => ?_⟩)
      obtain ⟨a, vs, rfl, ha, ra, la⟩ := r1.tupL
      exact ⟨a, rfl, ⟨vs, ha⟩, q _ H1 M1 p1 so1 (WD.at walk_tup ra la)⟩
    | str zz =>
      cases e2
      refine .inr (.inr ⟨M, U, st, env, _, _, er, e1, fun v H1 M1 p1 so1 r1 => ?_⟩)
      cases r1.w.str
      refine ⟨zz, rfl, q _ H1 M1 p1 so1 ?_⟩
      refine WD.fn (n := zz.cps.size) (G := fun _ => True) (F := fun i => .str ⟨#[zz.cps.getD i 0]⟩) ⟨walk_str.goes, walk_str.stops, fun i H v H' hi g y => ?_⟩ (by simp) (fun B H i hi => ?_) fun _ => trivial
      · obtain ⟨e, c, e2, e3⟩ := walk_str.yields i H v H' hi g y
        refine ⟨e, ?_⟩
        rw [e3]
        simp [Array.getD_eq_getD_getElem?, e2]
      · refine ⟨.str ⟨#[zz.cps.getD i 0]⟩, ?_, .str _⟩
        simp [List.getElem?_map, Array.getElem?_toList, Array.getD_eq_getD_getElem?, Array.getElem?_eq_getElem hi]
    | none => cases e2
    | bool b => cases e2
    | int b => cases e2
    | dict b => cases e2
theorem rg2_vs {i j : Int} {xs : List D} (e : rg2D i j = some xs) : (-(2 ^ 62) ≤ i ∧ i < 2 ^ 62 ∧ -(2 ^ 62) ≤ j ∧ j < 2 ^ 62) ∧ xs = (List.range (j - i).toNat).map fun k => .int (i + (k : Nat)) := by
  obtain ⟨hz, e⟩ := dec2 (show (if decide (-(2 ^ 61) ≤ i ∧ i < 2 ^ 61 ∧ -(2 ^ 61) ≤ j ∧ j < 2 ^ 61) = true then some ((List.range (j - i).toNat).map fun k => PyData.int (i + (k : Nat))) else none) = some xs from e)
  obtain ⟨h1, h2, h3, h4⟩ := of_decide_eq_true hz
  exact ⟨by omega, e.symm⟩
theorem wd_range {K : PySem.W.Frag} {M : List Addr} {U Z : Addr → Prop} {H : Hp} {i j : Int} : WD K M U Z H (Itr i (j - i).toNat) ((List.range (j - i).toNat).map fun k => PyData.int (i + (k : Nat))) :=
  WD.fn walk_range (by rw [List.length_map, List.length_range]) (fun B H k hk => ⟨_, by rw [List.getElem?_map, List.getElem?_range hk]; rfl, .int _⟩) fun _ => trivial
theorem si_rng1 {p : Pos} (hg : Gl X "range") (hm : X.mg "range" = none) (n : nice x = true) (hx : PE X x (SemB X.K f)) :
    PI X tg (.Call (.Name "range" p) [x] [] pos) (SemIZ z X.K fun env st => bnd (f env st) fun x s => ret ((asInt x).bind fun n => rg2D 0 n) s) :=
  piImp (pi_range1 hg hm (pa_cons hx pa_nil (star1 n [] _)) (star1 n [] _)) fun σ H R ⟨M, U, st, env, xs, s, er, ex, q⟩ => by
    obtain ⟨u, s1, e1, ex⟩ := bnd_eq ex
    obtain ⟨e2, rfl⟩ := ret_eq ex
    obtain ⟨i, e3, e4⟩ := Option.bind_eq_some_iff.mp e2
    cases u with
    | int j =>
      cases e3
      obtain ⟨⟨_, _, h3, h4⟩, ex⟩ := rg2_vs e4
      subst ex
      refine ⟨M, U, st, env, _, _, er, e1, fun v H1 M1 p1 so1 r1 => ?_⟩
      cases r1.w.int
      refine ⟨_, rfl, h3, h4, ?_⟩
      have w := wd_range (K := X.K) (M := M1) (U := U) (Z := z σ env) (H := H1) (i := 0) (j := i)
      have := q _ H1 M1 p1 so1 w
      rw [Int.sub_zero] at this
      exact this
    | none => cases e3
    | bool b => cases e3
    | str b => cases e3
    | list b => cases e3
    | tuple b => cases e3
    | dict b => cases e3
theorem si_rng2 {p : Pos} (hg : Gl X "range") (hm : X.mg "range" = none) (nx : nice x = true) (ny : nice y = true) (hx : PE X x (SemB X.K f)) (hy : PE X y (SemB X.K g)) :
    PI X tg (.Call (.Name "range" p) [x, y] [] pos) (SemIZ z X.K fun env st => bnd (f env st) fun x s => bnd (g env s) fun y s' => ret ((asInt x).bind fun i => (asInt y).bind fun j => rg2D i j) s') := by
  have s2 := star1 ny [] X.env
  have s1 := star1 nx [y] X.env
  refine piImp (pi_range2 hg hm (pa_cons hx (pa_cons hy pa_nil s2) s1) (by rw [s1, s2]; rfl) s2) fun σ H R ⟨M, U, st, env, xs, s, er, ex, q⟩ => ?_
  obtain ⟨u, s1, e1, ex⟩ := bnd_eq ex
  obtain ⟨v, s2, e2, ex⟩ := bnd_eq ex
  obtain ⟨e3, rfl⟩ := ret_eq ex
  obtain ⟨i, e4, e5⟩ := Option.bind_eq_some_iff.mp e3
  obtain ⟨j, e6, e7⟩ := Option.bind_eq_some_iff.mp e5
  cases u <;> first | (cases e4; done) | skip
  cases v <;> first | (cases e6; done) | skip
  cases e4
  cases e6
  obtain ⟨hb, rfl⟩ := rg2_vs e7
  refine ⟨M, U, st, env, _, _, er, e1, fun v H1 M1 p1 so1 r1 => ⟨M1, U, _, env, _, _, er.step p1 so1, e2, fun v2 H2 M2 p2 so2 r2 => ?_⟩⟩
  cases r1.w.int
  cases r2.w.int
  exact ⟨i, j, rfl, hb, q _ H2 M2 (p1.trans p2) so2 wd_range⟩
theorem si_enm {p tpos : Pos} {elts : List Expr} {kk : Nat} (hg : Gl X "enumerate") (hm : X.mg "enumerate" = none) (n : nice x = true) (hx : PE X x (SemBZ z X.K f)) :
    PI X (.Tuple elts kk tpos) (.Call (.Name "enumerate" p) [x] [] pos) (SemIZ z X.K fun env st => bnd (f env st) fun x s => ret ((items x).map (enumD 0)) s) :=
  piImp (Pk.pi_enumG hg hm (pa_cons hx pa_nil (star1 n [] _)) (star1 n [] _)) fun σ H R ⟨M, U, st, env, xs, s, er, ex, q⟩ => by
    obtain ⟨u, s1, e1, ex⟩ := bnd_eq ex
    obtain ⟨e2, rfl⟩ := ret_eq ex
    obtain ⟨ds, e3, rfl⟩ := Option.map_eq_some_iff.mp e2
    refine ⟨M, U, st, env, _, _, er, e1, fun v H1 M1 p1 so1 r1 => ?_⟩
    obtain ⟨w, a, vs, rfl, ha, ra, la⟩ := r1.seqL so1 e3
    refine ⟨w, a, vs, rfl, ha, q _ H1 M1 p1 so1 (WD.pair walk_enumG (by rw [enumD_len, ra.length]) (fun i c d hi e3 e4 => ?_) la)⟩
    cases e3
    obtain ⟨t, e5, rt⟩ := ra.getV e4
    refine ⟨.int (i : Nat), t, ?_, .int _, rt⟩
    rw [enumD_at, e5, Nat.zero_add]
    rfl
theorem si_zip {p tpos : Pos} {elts : List Expr} {kk : Nat} (hg : Gl X "zip") (hm : X.mg "zip" = none) (nx : nice x = true) (ny : nice y = true) (hx : PE X x (SemBZ z X.K f)) (hy : PE X y (SemBZ z X.K g)) :
    PI X (.Tuple elts kk tpos) (.Call (.Name "zip" p) [x, y] [] pos) (SemIZ z X.K fun env st => bnd (f env st) fun x s => bnd (g env s) fun y s' => ret ((items x).bind fun xs => (items y).map fun ys => zipD xs ys) s') := by
  have s2 := star1 ny [] X.env
  have s1 := star1 nx [y] X.env
  refine piImp (Pk.pi_zipG hg hm (pa_cons hx (pa_cons hy pa_nil s2) s1) s1 (by rw [s2]; rfl)) fun σ H R ⟨M, U, st, env, xs, s, er, ex, q⟩ => ?_
  obtain ⟨u, s1, e1, ex⟩ := bnd_eq ex
  obtain ⟨v, s2, e2, ex⟩ := bnd_eq ex
  obtain ⟨e3, rfl⟩ := ret_eq ex
  obtain ⟨ds, e4, e3⟩ := Option.bind_eq_some_iff.mp e3
  obtain ⟨es, e5, rfl⟩ := Option.map_eq_some_iff.mp e3
  refine ⟨M, U, st, env, _, _, er, e1, fun v1 H1 M1 p1 so1 r1 => ⟨M1, U, _, env, _, _, er.step p1 so1, e2, fun v2 H2 M2 p2 so2 r2 => ?_⟩⟩
  have r1 := r1.step p2 so1.ap
  obtain ⟨w, a, vs, rfl, ha, ra, la⟩ := r1.seqL so2 e4
  obtain ⟨w2, b, us, rfl, hb, rb, lb⟩ := r2.seqL so2 e5
  refine ⟨w, w2, a, b, vs, us, rfl, ha, hb, q _ H2 M2 (p1.trans p2) so2 (WD.pair (walk_zipG rfl) (by rw [zipD_len, ra.length, rb.length]) (fun i c d hi e6 e7 => ?_) fun M' U' H' l => ⟨la _ _ _ l, lb _ _ _ l⟩)⟩
  obtain ⟨t, e8, rt⟩ := ra.getV e6
  obtain ⟨t2, e9, rt2⟩ := rb.getV e7
  exact ⟨t, t2, zipD_at _ _ _ _ _ e8 e9, rt, rt2⟩
end
section
variable {X : Cx} {x y : Expr} {pos : Pos} {f g : Ev → Sto → Option (D × Sto)}
end
section
variable {X : Cx} {x : Expr} {pos : Pos} {f : Ev → Sto → Option (D × Sto)}
end
section
variable {K : PySem.W.Frag} {M M' : List Addr} {U U' Z B : Addr → Prop} {H H1 H' : Hp} {st : Sto} {d : Addr}
def LkD (H H1 : Hp) (d : Addr) : Prop := ∃ (u : HO) (o : Obj), Pk.DictO u ∧ ((H d = some u ∧ H1 = upd H d (.frz o u)) ∨ (H d = some (.frz o u) ∧ H1 = upd H d u))
theorem LkD.ne (l : LkD H H1 d) {a : Addr} (h : a ≠ d) : H1 a = H a := by
  obtain ⟨_, o, _, ⟨_, rfl⟩ | ⟨_, rfl⟩⟩ := l
  · exact upd_ne h
  · exact upd_ne h
theorem LkD.at (l : LkD H H1 d) {u : HO} (h : H d = some u) : ∃ w o, Pk.DictO w ∧ (u = w ∨ u = .frz o w) := by
  obtain ⟨w, o, dw, ⟨e, _⟩ | ⟨e, _⟩⟩ := l
  · rw [e] at h; cases h; exact ⟨u, o, dw, .inl rfl⟩
  · rw [e] at h; cases h; exact ⟨w, o, dw, .inr rfl⟩
theorem LkD.rd (l : LkD H H1 d) {a : Addr} {u : HO} (hu : ∀ o v, u ≠ .frz o v) (h : Rd H a u) : Rd H1 a u := by
  by_cases e : a = d
  · subst e
    obtain ⟨w, o, dw, ⟨e, rfl⟩ | ⟨e, rfl⟩⟩ := l
    · rcases h with h | ⟨o', h⟩
      · rw [e] at h; cases h
        exact .inr ⟨o, upd_same⟩
      · rw [e] at h; cases h
        exact dw.nf.elim
    · rcases h with h | ⟨o', h⟩
      · rw [e] at h; cases h
        exact absurd rfl (hu _ _)
      · rw [e] at h; cases h
        exact .inl upd_same
  · rcases h with h | ⟨o, h⟩
    · exact .inl (by rw [l.ne e]; exact h)
    · exact .inr ⟨o, by rw [l.ne e]; exact h⟩
theorem LkD.stayN (l : LkD H H1 d) {a : Addr} (h : ∃ o, H a = some o ∧ NoT o) : ∃ o, H1 a = some o ∧ NoT o := by
  by_cases e : a = d
  · subst e
    obtain ⟨w, o, dw, ⟨_, rfl⟩ | ⟨_, rfl⟩⟩ := l
    · exact ⟨_, upd_same, fun _ q => nomatch q⟩
    · refine ⟨_, upd_same, fun xs q => ?_⟩
      rcases dw with ⟨_, rfl⟩ | ⟨_, rfl⟩
      · cases q
      · cases q
  · rw [l.ne e]; exact h
theorem LkD.tu (l : LkD H H1 d) {a : Addr} {o : Obj} {xs : List V} (h : H a = some (tuO o xs)) : H1 a = some (tuO o xs) := by
  by_cases e : a = d
  · subst e
    obtain ⟨w, o', dw, q⟩ := l.at h
    rcases dw with ⟨_, rfl⟩ | ⟨_, rfl⟩
    · unfold tuO at q
      split at q
      · rcases q with q | q <;> cases q
      · rcases q with q | q <;> cases q
    · unfold tuO at q
      split at q
      · rcases q with q | q <;> cases q
      · rcases q with q | q <;> cases q
  · rw [l.ne e]; exact h
theorem LkD.ex (l : LkD H H1 d) {a : Addr} {p : Heap → Prop} (h : H a = some (.ext p)) : H1 a = some (.ext p) := by
  by_cases e : a = d
  · subst e
    obtain ⟨w, o', dw, q⟩ := l.at h
    rcases dw with ⟨_, rfl⟩ | ⟨_, rfl⟩ <;> (rcases q with q | q <;> cases q)
  · rw [l.ne e]; exact h
theorem nfK {kvs : List (Key × V)} : ∀ o v, HO.dK kvs ≠ .frz o v := fun _ _ z => nomatch z
theorem nfT {kvs : List (List Key × V)} : ∀ o v, HO.dT kvs ≠ .frz o v := fun _ _ z => nomatch z
theorem LkL.atL (f1 : ∀ a u, (∀ o v, u ≠ .frz o v) → Rd H a u → Rd H1 a u) {a : Addr} {xs : List V} (h : AtL K B H a xs) : AtL K B H1 a xs := h.imp (fun ⟨n, h⟩ => ⟨n, f1 _ _ (fun _ _ z => nomatch z) h⟩) id
theorem LkL.atT (f2 : ∀ (a : Addr) (o : Obj) (xs : List V), H a = some (tuO o xs) → H1 a = some (tuO o xs)) {a : Addr} {xs : List V} (h : AtT K B H a xs) : AtT K B H1 a xs := h.imp (fun h => ⟨h.1, h.2.imp fun _ h => ⟨h.1, f2 _ _ _ h.2⟩⟩) id
mutual
theorem Rp.lk0 (f1 : ∀ a u, (∀ o v, u ≠ .frz o v) → Rd H a u → Rd H1 a u) (f2 : ∀ (a : Addr) (o : Obj) (xs : List V), H a = some (tuO o xs) → H1 a = some (tuO o xs)) (f3 : ∀ a p, H a = some (HO.ext p) → H1 a = some (HO.ext p)) : ∀ {v : V} {x : D}, Rp K B H v x → Rp K B H1 v x
  | _, _, .non => .non
  | _, _, .bl b => .bl b
  | _, _, .int i => .int i
  | _, _, .str x => .str x
  | _, _, .lst h r => .lst (LkL.atL f1 h) (RpAll.lk0 f1 f2 f3 r)
  | _, _, .tup h r => .tup (LkL.atT f2 h) (RpAll.lk0 f1 f2 f3 r)
  | _, _, .dK n h r => .dK n (f1 _ _ nfK h) (RpKv.lk0 f1 f2 f3 r)
  | _, _, .dT n h r => .dT n (f1 _ _ nfT h) (RpTv.lk0 f1 f2 f3 r)
  | _, _, .exn c n1 n2 h1 h2 r => .exn c n1 n2 (f3 _ _ h1) (f3 _ _ h2) (Rp.lk0 f1 f2 f3 r)
theorem RpAll.lk0 (f1 : ∀ a u, (∀ o v, u ≠ .frz o v) → Rd H a u → Rd H1 a u) (f2 : ∀ (a : Addr) (o : Obj) (xs : List V), H a = some (tuO o xs) → H1 a = some (tuO o xs)) (f3 : ∀ a p, H a = some (HO.ext p) → H1 a = some (HO.ext p)) : ∀ {v : List V} {x : List D}, RpAll K B H v x → RpAll K B H1 v x
  | _, _, .nil => .nil
  | _, _, .cons h r => .cons (Rp.lk0 f1 f2 f3 h) (RpAll.lk0 f1 f2 f3 r)
theorem RpKv.lk0 (f1 : ∀ a u, (∀ o v, u ≠ .frz o v) → Rd H a u → Rd H1 a u) (f2 : ∀ (a : Addr) (o : Obj) (xs : List V), H a = some (tuO o xs) → H1 a = some (tuO o xs)) (f3 : ∀ a p, H a = some (HO.ext p) → H1 a = some (HO.ext p)) : ∀ {v : List (Key × V)} {x : List (D × D)}, RpKv K B H v x → RpKv K B H1 v x
  | _, _, .nil => .nil
  | _, _, .cons h r => .cons (Rp.lk0 f1 f2 f3 h) (RpKv.lk0 f1 f2 f3 r)
theorem RpTv.lk0 (f1 : ∀ a u, (∀ o v, u ≠ .frz o v) → Rd H a u → Rd H1 a u) (f2 : ∀ (a : Addr) (o : Obj) (xs : List V), H a = some (tuO o xs) → H1 a = some (tuO o xs)) (f3 : ∀ a p, H a = some (HO.ext p) → H1 a = some (HO.ext p)) : ∀ {v : List (List Key × V)} {x : List (D × D)}, RpTv K B H v x → RpTv K B H1 v x
  | _, _, .nil => .nil
  | _, _, .cons h r => .cons (Rp.lk0 f1 f2 f3 h) (RpTv.lk0 f1 f2 f3 r)
end
theorem Rp.lk (l : LkD H H1 d) {v : V} {x : D} (r : Rp K B H v x) : Rp K B H1 v x := r.lk0 (fun _ _ => l.rd) (fun _ _ _ => l.tu) (fun _ _ => l.ex)
theorem RpAll.lk (l : LkD H H1 d) {v : List V} {x : List D} (r : RpAll K B H v x) : RpAll K B H1 v x := r.lk0 (fun _ _ => l.rd) (fun _ _ _ => l.tu) (fun _ _ => l.ex)
theorem RpKv.lk (l : LkD H H1 d) {v : List (Key × V)} {x : List (D × D)} (r : RpKv K B H v x) : RpKv K B H1 v x := r.lk0 (fun _ _ => l.rd) (fun _ _ _ => l.tu) (fun _ _ => l.ex)
theorem RpTv.lk (l : LkD H H1 d) {v : List (List Key × V)} {x : List (D × D)} (r : RpTv K B H v x) : RpTv K B H1 v x := r.lk0 (fun _ _ => l.rd) (fun _ _ _ => l.tu) (fun _ _ => l.ex)
theorem OwAt.lk (l : LkD H H1 d) {a : Addr} (hne : a ≠ d) {x : D} (h : OwAt K B H H a x) : OwAt K B H1 H1 a x := by
  have e := l.ne hne
  cases x with
  | list xs => obtain ⟨vs, h1, r⟩ := h; exact ⟨vs, by rw [e]; exact h1, r.lk l⟩
  | dict ds =>
    rcases h with ⟨vs, h1, r⟩ | ⟨vs, es, q, h1, r⟩
    · exact .inl ⟨vs, by rw [e]; exact h1, r.lk l⟩
    · exact .inr ⟨vs, es, q, by rw [e]; exact h1, r.lk l⟩
  | none => exact h.elim
  | bool b => exact h.elim
  | int b => exact h.elim
  | str b => exact h.elim
  | tuple b => exact h.elim
theorem StoOk.lk (l : LkD H H1 d) (nb : ¬ Bar M U d) (s : StoOk K M U H st) : StoOk K M U H1 st :=
  ⟨s.len, s.nd, s.ap, fun n xs e => by
    obtain ⟨a, vs, h1, h2, h3⟩ := s.box n xs e
    refine ⟨a, vs, h1, ?_, h3.lk l⟩
    rw [l.ne fun z => nb (.inl (by rw [← z]; exact List.mem_of_getElem? h1))]
    exact h2, fun a u => l.stayN (s.trN a u)⟩
theorem KtAt.lk (l : LkD H H1 d) {ys : List Str} {o : Option V} (h : KtAt M U H ys o) : KtAt M U H1 ys o := by
  obtain ⟨a, ob, e, dn, h, n⟩ := h
  refine ⟨a, ob, e, dn, ?_, n⟩
  rw [l.ne fun z => by
    subst z
    obtain ⟨w, o', dw, q⟩ := l.at h
    rcases dw with ⟨_, rfl⟩ | ⟨_, rfl⟩ <;> (rcases q with q | q <;> cases q)]
  exact h
theorem SltR.lk (l : LkD H H1 d) (nb : ¬ Bar M U d) {s : Slot} {o : Option V} (h : SltR K M U H s o) : SltR K M U H1 s o := by
  cases s with
  | no => trivial
  | sh x => obtain ⟨v, e, r⟩ := h; exact ⟨v, e, r.lk l⟩
  | ow x => obtain ⟨a, e, u, q⟩ := h; exact ⟨a, e, u, q.lk l fun z => nb (.inr (by rw [← z]; exact u))⟩
  | lk x => obtain ⟨a, e, u, q⟩ := h; exact ⟨a, e, u, q.lk l fun z => nb (.inr (by rw [← z]; exact u))⟩
  | rf n => exact h
  | kt ys => exact KtAt.lk l h
theorem ER.lk {σ : L2.St} {env : Ev} (l : LkD H H1 d) (nb : ¬ Bar M U d) (r : ER K M U H st σ env) : ER K M U H1 st σ env := ⟨r.sto.lk l nb, r.len, fun i => (r.env i).lk l nb⟩
theorem LkD.of {u : HO} {o : Obj} (du : Pk.DictO u) (h : H d = some u) : LkD H (upd H d (.frz o u)) d := ⟨u, o, du, .inl ⟨h, rfl⟩⟩
theorem LkD.back {u : HO} {o : Obj} (du : Pk.DictO u) (h : H d = some (.frz o u)) : LkD H (upd H d u) d := ⟨u, o, du, .inr ⟨h, rfl⟩⟩
theorem Stp.unlk {w : HO} {o : Obj} {H2 : Hp} (h : H d = some w) (s : Stp M (upd H d (.frz o w)) M' H2) : Stp M H M' (upd H2 d w) :=
  ⟨s.pre, fun a m => (s.new a m).imp id fun z => by
    by_cases e : a = d
    · subst e; rw [upd_same] at z; cases z
    · rw [upd_ne e] at z; exact z, fun a u n e => by
    by_cases c : a = d
    · subst c; rw [h] at e; cases e; exact upd_same
    · rw [upd_ne c]
      exact s.fr a u n (by rw [upd_ne c]; exact e)⟩
end
def LckS (X : Cx) (M : List Addr) (U : Addr → Prop) (H Hl : Hp) : Prop := ∃ (d : Addr) (u : HO) (o : Obj), ¬ Bar M U d ∧ Pk.DictO u ∧ H d = some u ∧ Hl = upd H d (.frz o u) ∧ ∀ p q, X.H_0 d ≠ some (.frz p q)
def SemIL (z : L2.St → Ev → Addr → Prop) (X : Cx) (g : Ev → Sto → Option (List D × Sto)) : TI := fun σ H R => ∃ M U st env xs st', ER X.K M U H st σ env ∧ g env st = some (xs, st') ∧
  ∀ J H' M' Hl, Stp M H M' H' → StoOk X.K M' U H' st' → (Hl = H' ∨ LckS X M' U H' Hl) → WD X.K M' U (z σ env) Hl J xs → R J Hl
section
variable {X : Cx} {tg x : Expr} {z : L2.St → Ev → Addr → Prop}
theorem si_weak {g : Ev → Sto → Option (List D × Sto)} (h : PI X tg x (SemIZ z X.K g)) : PI X tg x (SemIL z X g) := ⟨fun pins s σ H R I ⟨M, U, st, env, xs, st', er, e, q⟩ =>
  h.run pins s σ H R I ⟨M, U, st, env, xs, st', er, e, fun J H' M' s so wd => q J H' M' H' s so (.inl rfl) wd⟩⟩
theorem RpKv.getV {K : PySem.W.Frag} {B : Addr → Prop} {H : Hp} : ∀ {kvs : List (Key × V)} {ds : List (D × D)}, RpKv K B H kvs ds → ∀ {i : Nat} {k : Key} {v : V}, kvs[i]? = some (k, v) → ∃ y, ds[i]? = some (kD k, y) ∧ Rp K B H v y
  | _, _, .nil, i, k, v, e => by simp at e
  | _, _, .cons h r, 0, k, v, e => by simp at e; obtain ⟨rfl, rfl⟩ := e; exact ⟨_, rfl, h⟩
  | _, _, .cons _ r, i + 1, k, v, e => by
    obtain ⟨y, h1, h2⟩ := r.getV (i := i) (by simpa using e)
    exact ⟨y, by simpa using h1, h2⟩
section
variable {K : PySem.W.Frag} {M : List Addr} {U Z : Addr → Prop} {H : Hp} {d : Addr} {o : Obj} {kvs : List (Key × V)} {ds : List (D × D)}
end
end
def DPrs (K : PySem.W.Frag) (B : Addr → Prop) (H : Hp) (a : Addr) (bs : List D) : Prop :=
  (∃ kvs ds, Rd H a (.dK kvs) ∧ RpKv K B H kvs ds ∧ bs = ds.map fun p => .tuple [p.1, p.2]) ∨ ∃ kvs ds, Rd H a (.dT kvs) ∧ RpTv K B H kvs ds ∧ bs = ds.map fun p => .tuple [p.1, p.2]
theorem DPrs.keep {K : PySem.W.Frag} {B : Addr → Prop} {H H' : Hp} {a : Addr} {bs : List D} (h : DPrs K B H a bs) (g : ∀ a o, H a = some o → H' a = some o) : DPrs K B H' a bs := by
  have kp : Keep B B H H' := fun a o nb e => ⟨g a o e, nb⟩
  rcases h with ⟨kvs, ds, e, r, hb⟩ | ⟨kvs, ds, e, r, hb⟩
  · exact .inl ⟨kvs, ds, e.imp (g _ _) fun ⟨o, e⟩ => ⟨o, g _ _ e⟩, r.keep kp, hb⟩
  · exact .inr ⟨kvs, ds, e.imp (g _ _) fun ⟨o, e⟩ => ⟨o, g _ _ e⟩, r.keep kp, hb⟩
end Pi

end
section
set_option Elab.async false
set_option linter.all false
set_option maxRecDepth 100000
set_option maxHeartbeats 1000000
namespace Pi
open PySem PySem.Spec PyProof.Rows L2
mutual
def tgR (K : PySem.W.Frag) : Tg → TG
  | .n i => gName i
  | .t ts => fun v σ H Q => gTup K (tgLen ts) (tgsR K ts) v σ H Q ∨ gLst K (tgLen ts) (tgsR K ts) v σ H Q
def tgsR (K : PySem.W.Frag) : Tgs → TGs
  | .nil => gNil
  | .cons t ts => gCons (tgR K t) (tgsR K ts)
def tgLen : Tgs → Nat
  | .nil => 0
  | .cons _ ts => tgLen ts + 1
end
mutual
def slots : Tg → List Nat
  | .n i => [i]
  | .t ts => slotss ts
def slotss : Tgs → List Nat
  | .nil => []
  | .cons t ts => slots t ++ slotss ts
end
mutual
inductive TgX (N : List Str) (P : Str → Prop) : Tg → Expr → Prop
  | n {i : Nat} {x : Str} {pos : Pos} : N[i]? = some x → P x → TgX N P (.n i) (.Name x pos)
  | t {ts : Tgs} {es : List Expr} {k : Nat} {pos : Pos} : TgsX N P ts es → TgX N P (.t ts) (.Tuple es k pos)
inductive TgsX (N : List Str) (P : Str → Prop) : Tgs → List Expr → Prop
  | nil : TgsX N P .nil []
  | cons {t : Tg} {ts : Tgs} {e : Expr} {es : List Expr} : TgX N P t e → TgsX N P ts es → TgsX N P (.cons t ts) (e :: es)
end
def StN (X : Cx) (x : Str) : Prop := Loc X.env.scope x ∧ (X.fn x = true ∨ X.env.scope.names.lookup x = some .local)
section
variable {X : Cx}
theorem tg_each {P : Str → Prop} {t : Tg} {e : Expr} (h : TgX X.N P t e) (es : List Expr) (env : Env) : assignEach (e :: es) env = (false, assign e env) :: assignEach es env := by
  cases h with
  | n _ _ => rfl
  | t _ => rfl
theorem tgs_each {P : Str → Prop} : ∀ {ts : Tgs} {es : List Expr}, TgsX X.N P ts es → ∀ env : Env, (assignEach es env).length = tgLen ts ∧ (assignEach es env).findIdx? (·.1) = none
  | _, _, .nil, env => ⟨rfl, rfl⟩
  | _, _, .cons h r, env => by
    obtain ⟨h1, h2⟩ := tgs_each r env
    rw [tg_each h]
    refine ⟨congrArg (· + 1) h1, ?_⟩
    rw [List.findIdx?_cons]
    simp [h2]
mutual
theorem pg_T (hc : X.calm = true) (hN : X.N.Nodup) : ∀ {t : Tg} {e : Expr}, TgX X.N (StN X) t e → PG X e (tgR X.K t)
  | _, _, .n h p => pg_name hN h p.1 p.2
  | _, _, .t h => ⟨fun pins s σ H v u Q I r q => q.elim ((pg_tup hc (pgs_T hc hN h) (tgs_each h X.env).1 (tgs_each h X.env).2).run pins s σ H v u Q I r) ((pg_lst hc (pgs_T hc hN h) (tgs_each h X.env).1 (tgs_each h X.env).2).run pins s σ H v u Q I r)⟩
theorem pgs_T (hc : X.calm = true) (hN : X.N.Nodup) : ∀ {t : Tgs} {e : List Expr}, TgsX X.N (StN X) t e → PGs X e (tgsR X.K t)
  | _, _, .nil => pgs_nil
  | _, _, .cons h r => pgs_cons (pg_T hc hN h) (pgs_T hc hN r) (by rw [tg_each h]; rfl)
end
end
theorem look_set (env : Ev) (i j : Nat) (s : Slot) (h : i < env.length) : look (env.set i s) j = if j = i then s else look env j := by
  unfold look
  rw [List.getD_eq_getElem?_getD, List.getD_eq_getElem?_getD, List.getElem?_set]
  by_cases e : i = j
  · subst e; simp [h]
  · simp [e, Ne.symm e]
theorem join_set (σ : L2.St) (i j : Nat) (v : V) (h : i < σ.length) : ((σ.set i (some v))[j]?).join = if j = i then some v else (σ[j]?).join := by
  rw [List.getElem?_set]
  by_cases e : i = j
  · subst e; simp [h]
  · simp [e, Ne.symm e]
section
variable {K : PySem.W.Frag} {M : List Addr} {U : Addr → Prop} {H : Hp} {st : Sto}
theorem ER.sh {σ : L2.St} {env : Ev} (er : ER K M U H st σ env) {i : Nat} {v : V} {x : D} (h : i < env.length) (r : Rp K (Bar M U) H v x) : ER K M U H st (σ.set i (some v)) (env.set i (.sh x)) :=
  ⟨er.sto, by rw [List.length_set, List.length_set]; exact er.len, fun j => by
    rw [look_set env i j _ h, join_set σ i j v (by rw [← er.len]; exact h)]
    by_cases e : j = i
    · rw [if_pos e, if_pos e]; exact ⟨v, rfl, r⟩
    · rw [if_neg e, if_neg e]; exact er.env j⟩
mutual
theorem bind_ok : ∀ (t : Tg) {x : D} {v : V} {σ : L2.St} {env env' : Ev} {Q : L2.St → Hp → Prop}, ER K M U H st σ env → Rp K (Bar M U) H v x → bindT t x env = some env' →
    (∀ σ', ER K M U H st σ' env' → σ'.length = σ.length → (∀ i, i ∉ slots t → σ'[i]? = σ[i]?) → Q σ' H) → tgR K t v σ H Q
  | .n i, x, v, σ, env, env', Q, er, r, e, q => by
    obtain ⟨h, e⟩ := dec2 (show (if i < env.length then some (env.set i (.sh x)) else none) = some env' from e)
    subst e
    refine q _ (er.sh h r) (by rw [List.length_set]) fun j hj => ?_
    rw [List.getElem?_set_ne]
    intro z
    exact hj (by rw [z]; exact List.mem_singleton.mpr rfl)
  | .t ts, x, v, σ, env, env', Q, er, r, e, q => by
    cases x with
    | tuple xs =>
      cases r with
      | tup h r =>
        obtain ⟨hl, q'⟩ := binds_ok ts er r e q
        exact .inl ⟨_, _, rfl, h.sq, hl, q'⟩
    | list xs =>
      cases r with
      | lst h r =>
        obtain ⟨hl, q'⟩ := binds_ok ts er r e q
        exact .inr ⟨_, _, rfl, h.sq, hl, q'⟩
    | none => cases e
    | bool b => cases e
    | int b => cases e
    | str b => cases e
    | dict b => cases e
theorem binds_ok : ∀ (ts : Tgs) {xs : List D} {vs : List V} {σ : L2.St} {env env' : Ev} {Q : L2.St → Hp → Prop}, ER K M U H st σ env → RpAll K (Bar M U) H vs xs → bindTs ts xs env = some env' →
    (∀ σ', ER K M U H st σ' env' → σ'.length = σ.length → (∀ i, i ∉ slotss ts → σ'[i]? = σ[i]?) → Q σ' H) → vs.length = tgLen ts ∧ tgsR K ts vs σ H Q
  | .nil, xs, vs, σ, env, env', Q, er, r, e, q => by
    cases r with
    | nil => cases e; exact ⟨rfl, rfl, q σ er rfl fun _ _ => rfl⟩
    | cons h r => cases e
  | .cons t ts, xs, vs, σ, env, env', Q, er, r, e, q => by
    cases r with
    | nil => cases e
    | @cons v vs x xs h r =>
      obtain ⟨e1, e2, e3⟩ := Option.bind_eq_some_iff.mp (show (bindT t x env).bind (fun env' => bindTs ts xs env') = some env' from e)
      have len : vs.length = tgLen ts := by
        have := (bindTs_len ts e3)
        rw [r.length, this]
      refine ⟨congrArg (· + 1) len, v, vs, rfl, bind_ok t er h e2 fun σ1 er1 l1 s1 => ?_⟩
      exact (binds_ok ts er1 r e3 fun σ2 er2 l2 s2 => q σ2 er2 (l2.trans l1) fun i hi => by
        rw [s2 i fun z => hi (List.mem_append_right _ z), s1 i fun z => hi (List.mem_append_left _ z)]).2
theorem bindTs_len : ∀ (ts : Tgs) {xs : List D} {env env' : Ev}, bindTs ts xs env = some env' → xs.length = tgLen ts
  | .nil, xs, env, env', e => by
    cases xs with
    | nil => rfl
    | cons a b => cases e
  | .cons t ts, xs, env, env', e => by
    cases xs with
    | nil => cases e
    | cons x xs =>
      obtain ⟨e1, e2, e3⟩ := Option.bind_eq_some_iff.mp (show (bindT t x env).bind (fun env' => bindTs ts xs env') = some env' from e)
      exact congrArg (· + 1) (bindTs_len ts e3)
end
theorem look_wipe (env : Ev) (i : Nat) : ∀ vs : List Nat, look (wipeE env vs) i = if i ∈ vs then .no else look env i
  | [] => by simp [wipeE]
  | v :: vs => by
    have ih := look_wipe env i vs
    unfold wipeE
    unfold look at ih ⊢
    rw [List.getD_eq_getElem?_getD, List.getElem?_set]
    by_cases e : v = i
    · subst e
      by_cases h : v < (wipeE env vs).length
      · simp [h]
      · simp [h]
    · rw [if_neg e]
      rw [List.getD_eq_getElem?_getD] at ih
      rw [ih]
      simp [Ne.symm e]
theorem wipeE_len (env : Ev) : ∀ vs : List Nat, (wipeE env vs).length = env.length
  | [] => rfl
  | v :: vs => by unfold wipeE; rw [List.length_set, wipeE_len env vs]
theorem wipe_at (σ : L2.St) (i : Nat) : ∀ vs : List Nat, (wipe σ vs)[i]? = if i ∈ vs then (if i < σ.length then some none else none) else σ[i]?
  | [] => by simp [wipe]
  | v :: vs => by
    have ih := wipe_at σ i vs
    unfold wipe
    rw [List.getElem?_set, wipe_length]
    by_cases e : v = i
    · subst e; simp
    · rw [if_neg e, ih]
      simp [Ne.symm e]
theorem wipe_eq {σ σ' : L2.St} {vs : List Nat} (hl : σ'.length = σ.length) (h : ∀ i, i ∉ vs → σ'[i]? = (wipe σ vs)[i]?) : wipe σ' vs = wipe σ vs := by
  apply List.ext_getElem?
  intro i
  rw [wipe_at σ' i vs]
  by_cases hi : i ∈ vs
  · rw [if_pos hi, wipe_at σ i vs, if_pos hi, hl]
  · rw [if_neg hi, h i hi]
theorem ER.wipe {σ : L2.St} {env : Ev} (er : ER K M U H st σ env) (vs : List Nat) : ER K M U H st (wipe σ vs) (wipeE env vs) :=
  ⟨er.sto, by rw [wipeE_len, wipe_length]; exact er.len, fun i => by
    rw [look_wipe]
    by_cases h : i ∈ vs
    · rw [if_pos h]; trivial
    · rw [if_neg h, wipe_at, if_neg h]; exact er.env i⟩
theorem StoOk.more {p : Addr} {o : HO} (so : StoOk K M U H st) (n : H p = none) (nt : NoT o := by exact fun _ q => nomatch q) : StoOk K M (fun b => U b ∨ b = p) (upd H p o) st := by
  have kp : Keep (Bar M U) (Bar M fun b => U b ∨ b = p) H (upd H p o) := fun b u nb e => ⟨growN n b u e, fun z => by
    rcases z with z | z | z
    · exact nb (.inl z)
    · exact nb (.inr z)
    · subst z; rw [n] at e; cases e⟩
  refine ⟨so.len, so.nd, fun b m z => ?_, fun k xs e => ?_, fun b z => ?_⟩
  · rcases z with z | z
    · exact so.ap b m z
    · subst z
      obtain ⟨o, e⟩ := so.tracked b (.inl m)
      rw [n] at e; cases e
  · obtain ⟨b, vs, h1, h2, h3⟩ := so.box k xs e
    exact ⟨b, vs, h1, growN n _ _ h2, h3.keep kp⟩
  · rcases z with z | z
    · obtain ⟨o, e, nt⟩ := so.trN b z
      exact ⟨o, growN n _ _ e, nt⟩
    · subst z; exact ⟨_, upd_same, nt⟩
theorem keepU {p : Addr} {o : HO} (u : U p) : Keep (Bar M U) (Bar M U) H (upd H p o) := fun b x nb e => ⟨by
  rw [upd_ne fun z => nb (.inr (by rw [z]; exact u))]; exact e, nb⟩
theorem StoOk.upd {p : Addr} {o : HO} (so : StoOk K M U H st) (u : U p) (nt : NoT o := by exact fun _ q => nomatch q) : StoOk K M U (upd H p o) st := by
  refine ⟨so.len, so.nd, so.ap, fun k xs e => ?_, fun b z => ?_⟩
  · obtain ⟨b, vs, h1, h2, h3⟩ := so.box k xs e
    refine ⟨b, vs, h1, ?_, h3.keep (keepU u)⟩
    rw [upd_ne fun z => so.ap b (List.mem_of_getElem? h1) (by rw [z]; exact u)]
    exact h2
  · by_cases e : b = p
    · subst e; exact ⟨_, upd_same, nt⟩
    · obtain ⟨o, h, nt⟩ := so.trN b z
      exact ⟨o, by rw [upd_ne e]; exact h, nt⟩
theorem Stp.updNew {M' : List Addr} {H' : Hp} {p : Addr} {o : HO} (s : Stp M H M' H') (n : H p = none) : Stp M H M' (upd H' p o) :=
  ⟨s.pre, s.new, fun a u na e => by
    rw [upd_ne (ne_of_none e n)]
    exact s.fr a u na e⟩
end
section
variable {X : Cx}
theorem lc_go {vs : List Nat} {t : Tg} {gc : Ev → Sto → Option (Bool × Sto)} {ge : Ev → Sto → Option (D × Sto)} (hs : ∀ i ∈ slots t, i ∈ vs) {σ : L2.St} {M1 : List Addr} {U : Addr → Prop} {H1 : Hp} {s st' : Sto} {env : Ev} {J : L2.It} {xs ys : List D} {Q : VK} (er : ER X.K M1 U H1 s σ env)
    (wd : WD X.K M1 U (OwV σ env) H1 J xs) (e2 : turns (bindT t) gc ge (wipeE env vs) xs [] s = some (ys, st'))
    (q : ∀ a H' M', Stp M1 H1 M' H' → H1 a = none → StoOk X.K M' (fun b => U b ∨ b = a) H' st' → OwAt X.K (Bar M' fun b => U b ∨ b = a) H' H' a (.list ys) → Q (.ref a) H') :
    tLc (fun _ G R => R J G) (tgR X.K t) (SemT X.K gc) (SemD X.K ge) vs σ H1 Q := by
  intro Dl nD
  have so1 := er.sto
  -- what holds ahead of turn i
  let Pv : Nat → Hp → Prop := fun i H => ∃ M' si acc us, Stp M1 H1 M' H ∧ StoOk X.K M' (fun b => U b ∨ b = Dl) H si ∧ H Dl = some (.lst us) ∧ RpAll X.K (Bar M' fun b => U b ∨ b = Dl) H us acc ∧ turns (bindT t) gc ge (wipeE env vs) (xs.drop i) acc si = some (ys, st')
  refine ⟨fun i m H => m = xs.length - i ∧ i ≤ xs.length ∧ Pv i H, ⟨xs.length, by simp, Nat.zero_le _, M1, s, [], [], (Stp.grow (growN nD)), so1.more nD, upd_same, .nil, e2⟩, ?_⟩
  rintro i m H2 ⟨rfl, hi, M2, si, acc, us, p2, so2, eD, ra, et⟩
  have lat : Lat M1 U (OwV σ env) H1 M2 (fun b => U b ∨ b = Dl) H2 := ⟨p2.new, fun a z => z.elim .inl fun z => .inr (by rw [z]; exact nD), so2.tracked, fun _ => False, fun _ z => z.elim, fun _ _ z => z, fun a o n _ e => p2.fr a o n e⟩
  by_cases hlt : i < xs.length
  · refine .inr ⟨wd.go M2 _ H2 i lat hlt, Pv (i + 1), fun H' pv => ⟨xs.length - (i + 1), by omega, rfl, hlt, pv⟩, fun x H3 hy => ?_⟩
    obtain ⟨d, ed, gr, rx⟩ := wd.yld M2 _ H2 i x H3 lat hlt hy
    have edr : xs.drop i = d :: xs.drop (i + 1) := by
      rw [List.drop_eq_getElem_cons hlt]
      congr 1
      rw [List.getElem?_eq_getElem hlt] at ed
      exact Option.some.inj ed
    rw [edr] at et
    have so3 := so2.grow gr
    have p03 : Stp M1 H1 M2 H3 := p2.trans (Stp.grow gr)
    have er3 : ER X.K M2 (fun b => U b ∨ b = Dl) H3 si σ env := ⟨so3, er.len, fun j => slr_more p03 er.sto.ap er.sto.tr nD so3 (er.env j)⟩
    have hb : ∃ e1, bindT t d (wipeE env vs) = some e1 ∧ bnd (gc e1 si) (fun b s1 => if b then bnd (ge e1 s1) fun y s2 => if acc.length < SL then turns (bindT t) gc ge (wipeE env vs) (xs.drop (i + 1)) (acc ++ [y]) s2 else none else turns (bindT t) gc ge (wipeE env vs) (xs.drop (i + 1)) acc s1) = some (ys, st') := by
      unfold turns at et
      cases hbt : bindT t d (wipeE env vs) with
      | none => rw [hbt] at et; cases et
      | some e1 => rw [hbt] at et; exact ⟨e1, rfl, et⟩
    obtain ⟨en, eb, et⟩ := hb
    refine bind_ok t (er3.wipe vs) rx eb fun σ2 er4 hl ag => ⟨wipe_eq (by rw [hl, wipe_length]) fun j hj => ag j fun z => hj (hs j z), ?_⟩
    obtain ⟨b, s4, e4, et⟩ := bnd_eq et
    refine ⟨M2, _, si, en, b, s4, er4, e4, fun H5 M5 p5 so5 => ?_⟩
    have nD2 : Dl ∉ M2 := fun z => so2.ap Dl z (.inr rfl)
    have eD3 : H3 Dl = some (.lst us) := gr _ _ eD
    have eD5 : H5 Dl = some (.lst us) := p5.fr _ _ nD2 eD3
    have p35 : Stp M1 H1 M5 H5 := (p2.trans (Stp.grow gr)).trans p5
    have ra5 := (ra.step (Stp.grow gr)).step p5
    cases b with
    | false =>
      rw [if_neg Bool.false_ne_true] at et
      show if false = true then _ else Pv (i + 1) H5
      rw [if_neg Bool.false_ne_true]
      exact ⟨M5, s4, acc, us, p35, so5, eD5, ra5, et⟩
    | true =>
      rw [if_pos rfl] at et
      show if true = true then (SemD X.K ge σ2 H5 fun y H4 => ∃ acc, H4 Dl = some (HO.lst acc) ∧ acc.length < sizeLine ∧ Pv (i + 1) (L2.upd H4 Dl (HO.lst (acc ++ [y])))) else _
      rw [if_pos rfl]
      obtain ⟨y, s6, e6, et⟩ := bnd_eq et
      obtain ⟨hz, et⟩ : acc.length < SL ∧ turns (bindT t) gc ge (wipeE env vs) (xs.drop (i + 1)) (acc ++ [y]) s6 = some (ys, st') := by
        split at et
        · exact ⟨‹_›, et⟩
        · cases et
      refine ⟨M5, _, s4, en, y, s6, er4.step p5 so5, e6, fun v H6 M6 p6 so6 rv => ?_⟩
      have nD5 : Dl ∉ M5 := fun z => so5.ap Dl z (.inr rfl)
      have eD6 : H6 Dl = some (.lst us) := p6.fr _ _ nD5 eD5
      have hu : (fun b => U b ∨ b = Dl) Dl := .inr rfl
      refine ⟨us, eD6, Nat.lt_of_lt_of_le (by rw [ra5.length]; exact hz) (by decide), M6, s6, acc ++ [y], us ++ [v], (p35.trans p6).updNew nD, so6.upd hu, upd_same, ?_, et⟩
      exact ((ra5.step p6).append (.one rv)).keep (keepU hu)
  · have e : i = xs.length := by omega
    subst e
    refine .inl ⟨wd.stop M2 _ H2 lat, ?_⟩
    rw [List.drop_length] at et
    cases et
    exact q Dl H2 M2 p2 nD so2 ⟨us, eD, ra⟩
theorem unlk_at {M M' : List Addr} {U : Addr → Prop} {H H' : Hp} {d a : Addr} {w : HO} {o : Obj} (hd : H d = some w) (nb : ¬ Bar M U d) (p : Stp M (upd H d (.frz o w)) M' H') (n : upd H d (.frz o w) a = none) :
    H' d = some (.frz o w) ∧ a ≠ d ∧ ¬ Bar M' (fun b => U b ∨ b = a) d := by
  have ne : a ≠ d := fun z => by rw [z, upd_same] at n; cases n
  refine ⟨p.fr d _ (fun z => nb (.inl z)) upd_same, ne, fun z => ?_⟩
  rcases z with z | z | z
  · rcases p.new d z with q | q
    · exact nb (.inl q)
    · rw [upd_same] at q; cases q
  · exact nb (.inr z)
  · exact ne z.symm
theorem lc_imL {vs : List Nat} {t : Tg} {gi : Ev → Sto → Option (List D × Sto)} {gc : Ev → Sto → Option (Bool × Sto)} {ge : Ev → Sto → Option (D × Sto)} (hs : ∀ i ∈ slots t, i ∈ vs) (σ : L2.St) (H : Hp) (Q : VK)
    (hh : SemE X.K (fun env st => bnd (gi env st) fun xs s => bnd (turns (bindT t) gc ge (wipeE env vs) xs [] s) fun ys s' => some (.fr (.list ys), s')) σ H Q) : tLc (SemIL OwV X gi) (tgR X.K t) (SemT X.K gc) (SemD X.K ge) vs σ H (fun v H' => Q v H' ∨ Pk.UnL X H' (Q v)) := by
  obtain ⟨M, U, st, env, w, st', er, ex, q⟩ := hh
  obtain ⟨xs, s, e1, ex⟩ := bnd_eq ex
  obtain ⟨ys, s', e2, ex⟩ := bnd_eq ex
  cases ex
  refine ⟨M, U, st, env, xs, s, er, e1, fun J H1 M1 Hl p1 so1 hl wd => ?_⟩
  have er1 := er.step p1 so1
  have old : ∀ a, H1 a = none → H a = none := fun a n => p1.none_of (fun z => by
    obtain ⟨o, e⟩ := so1.tracked a (Or.inl (p1.mem z))
    rw [n] at e; cases e) n
  rcases hl with rfl | ⟨d, kvs, o, nb, du, hd, rfl, hn⟩
  · exact lc_go (Q := fun v H' => Q v H' ∨ Pk.UnL X H' (Q v)) hs er1 wd e2 fun a H' M' p2 n so ow => .inl (q a H' M' (p1.trans p2) (old a n) so ow)
  · refine lc_go (Q := fun v H' => Q v H' ∨ Pk.UnL X H' (Q v)) hs (er1.lk (LkD.of du hd) nb) wd e2 fun a H' M' p2 n so ow => ?_
    obtain ⟨f1, f2, f3⟩ := unlk_at hd nb p2 n
    exact .inr ⟨d, o, kvs, f1, hn, q a _ M' (p1.trans (Stp.unlk hd p2)) (old a (by have n2 := n; rw [upd_ne f2] at n2; exact n2)) (so.lk (LkD.back du f1) f3) (ow.lk (LkD.back du f1) f2)⟩
theorem se_lc {elt tg iter : Expr} {ifs : List Expr} {scope : Scope} {vs : List Nat} {own : List (Str × Nat)} {pos : Pos} {t : Tg} {gi : Ev → Sto → Option (List D × Sto)} {gc : Ev → Sto → Option (Bool × Sto)} {ge : Ev → Sto → Option (D × Sto)}
    (hc : X.calm = true) (hN : X.N.Nodup) (hi : PI X tg iter (SemIL OwV X gi)) (ok : BlkOk X.N X.env.scope scope own) (hvs : own.map (·.2) = vs) (hs : ∀ i ∈ slots t, i ∈ vs)
    (hg : ∀ (s : Shared) (H : Hp) (C : Addr) (cl : List (Str × Addr)) (fp : List Addr), PG (X.blk s H scope (compEnvC scope cl C X.env) fp) tg (tgR X.K t))
    (ht : ∀ (s : Shared) (H : Hp) (C : Addr) (cl : List (Str × Addr)) (fp : List Addr), PTs (X.blk s H scope (compEnvC scope cl C X.env) fp) ifs (SemT X.K gc))
    (he : ∀ (s : Shared) (H : Hp) (C : Addr) (cl : List (Str × Addr)) (fp : List Addr), PE (X.blk s H scope (compEnvC scope cl C X.env) fp) elt (SemD X.K ge)) (nf : nice iter = true) :
    PE X (.ListComp elt [⟨tg, iter, ifs, 0⟩] scope pos) (SemE X.K fun env st => bnd (gi env st) fun xs s => bnd (turns (bindT t) gc ge (wipeE env vs) xs [] s) fun ys s' => some (.fr (.list ys), s')) := by
  subst hvs
  exact peImp (Pk.pe_unl (pe_lc hc hN hi ok hg ht he (noFold nf X.env))) (lc_imL hs)
end
end Pi

end
section
set_option Elab.async false
set_option linter.all false
set_option maxRecDepth 100000
set_option maxHeartbeats 1000000
namespace Pi
open PySem PySem.Spec PyProof.Rows L2
structure StpW (W : Addr → Prop) (M : List Addr) (H : Hp) (M' : List Addr) (H' : Hp) : Prop where
  pre : M <+: M'
  new : ∀ a ∈ M', a ∈ M ∨ H a = none
  fr : ∀ a o, a ∉ M → ¬ W a → H a = some o → H' a = some o
section
variable {K : PySem.W.Frag} {W : Addr → Prop} {M M' M2 : List Addr} {U Z : Addr → Prop} {H H' H2 : Hp} {st st' : Sto} {σ : L2.St} {env : Ev}
theorem StpW.old (s : StpW W M H M' H') {a : Addr} {o : HO} (n : a ∉ M) (h : H a = some o) : a ∉ M' := fun q => by
  rcases s.new a q with z | z
  · exact n z
  · rw [z] at h; cases h
theorem StpW.step (s : StpW W M H M' H') (t : Stp M' H' M2 H2) (tw : ∀ a, W a → ∃ o, H' a = some o) : StpW W M H M2 H2 where
  pre := s.pre.trans t.pre
  new := fun a h => by
    rcases t.new a h with z | z
    · exact s.new a z
    · by_cases n : a ∈ M
      · exact .inl n
      · by_cases w : W a
        · obtain ⟨o, e⟩ := tw a w
          rw [z] at e; cases e
        · refine .inr ?_
          cases q : H a with
          | none => rfl
          | some o => rw [s.fr a o n w q] at z; cases z
  fr := fun a o n w h => t.fr a o (s.old n h) (s.fr a o n w h)
theorem StpW.upd (s : StpW W M H M' H') {p : Addr} {o : HO} (w : W p) : StpW W M H M' (upd H' p o) :=
  ⟨s.pre, s.new, fun a u n nw e => by
    rw [upd_ne fun z => nw (by rw [z]; exact w)]
    exact s.fr a u n nw e⟩
theorem StpW.keep (s : StpW W M H M' H') (wu : ∀ a, W a → U a) : Keep (Bar M U) (Bar M' U) H H' := fun a o n h => by
  have nm : a ∉ M := fun z => n (.inl z)
  refine ⟨s.fr a o nm (fun z => n (.inr (wu a z))) h, fun z => ?_⟩
  rcases z with z | z
  · exact s.old nm h z
  · exact n (.inr z)
theorem StpW.lat (s : StpW W M H M' H') (wu : ∀ a, W a → U a) (hw : ∀ a, Z a → ¬ W a) (so : StoOk K M' U H' st') : Lat M U Z H M' U H' :=
  ⟨s.new, fun a z => .inl z, so.tracked, W, wu, hw, s.fr⟩
theorem drop_at {xs : List D} {i : Nat} {d : D} (h : i < xs.length) (e : xs[i]? = some d) : xs.drop i = d :: xs.drop (i + 1) := by
  rw [List.drop_eq_getElem_cons h]
  congr 1
  rw [List.getElem?_eq_getElem h] at e
  exact Option.some.inj e
mutual
theorem bind_look : ∀ (t : Tg) {x : D} {env env' : Ev}, bindT t x env = some env' → env'.length = env.length ∧ ∀ i, (look env' i = look env i ∧ i ∉ slots t) ∨ ∃ y, look env' i = .sh y
  | .n i, x, env, env', e => by
    obtain ⟨h, e⟩ := dec2 (show (if i < env.length then some (env.set i (.sh x)) else none) = some env' from e)
    subst e
    refine ⟨List.length_set, fun j => ?_⟩
    rw [look_set env i j _ h]
    by_cases q : j = i
    · rw [if_pos q]; exact .inr ⟨_, rfl⟩
    · rw [if_neg q]; exact .inl ⟨rfl, fun z => q (List.mem_singleton.mp z)⟩
  | .t ts, x, env, env', e => by
    cases x with
    | tuple xs => exact binds_look ts e
    | list xs => exact binds_look ts e
    | none => cases e
    | bool b => cases e
    | int b => cases e
    | str b => cases e
    | dict b => cases e
theorem binds_look : ∀ (ts : Tgs) {xs : List D} {env env' : Ev}, bindTs ts xs env = some env' → env'.length = env.length ∧ ∀ i, (look env' i = look env i ∧ i ∉ slotss ts) ∨ ∃ y, look env' i = .sh y
  | .nil, xs, env, env', e => by
    cases xs with
    | nil => cases e; exact ⟨rfl, fun i => .inl ⟨rfl, fun z => nomatch z⟩⟩
    | cons a b => cases e
  | .cons t ts, xs, env, env', e => by
    cases xs with
    | nil => cases e
    | cons x xs =>
      obtain ⟨e1, e2, e3⟩ := Option.bind_eq_some_iff.mp (show (bindT t x env).bind (fun env' => bindTs ts xs env') = some env' from e)
      obtain ⟨l1, h1⟩ := bind_look t e2
      obtain ⟨l2, h2⟩ := binds_look ts e3
      refine ⟨l2.trans l1, fun i => ?_⟩
      rcases h2 i with ⟨q, n⟩ | q
      · rcases h1 i with ⟨q', n'⟩ | ⟨y, q'⟩
        · exact .inl ⟨q.trans q', fun z => (List.mem_append.mp z).elim n' n⟩
        · exact .inr ⟨y, q.trans q'⟩
      · exact .inr q
end
end
section
variable {X : Cx}
end
def FZ (B : Addr → Prop) (H : Hp) (kvs : List (Key × V)) (ns : List Addr) : Prop := ∀ k d, (k, V.ref d) ∈ kvs → d ∉ ns → ¬ B d → ∀ jvs, Rd H d (.dK jvs) → ∃ o, H d = some (.frz o (.dK jvs))
def KxA (K : PySem.W.Frag) (M : List Addr) (U : Addr → Prop) (H : Hp) (σ : L2.St) (env : Ev) (a : Nat) (ns : List Addr) : Prop := ∀ T ds, look env a = .sh T → dictK T = some ds →
  ∃ A kvs, σ[a]? = some (some (.ref A)) ∧ ¬ Bar M U A ∧ Rd H A (.dK kvs) ∧ RpKv K (Bar M U) H kvs ds ∧ FZ (Bar M U) H kvs ns
section
variable {X : Cx}
theorem KxA.lk {K : PySem.W.Frag} {M : List Addr} {U : Addr → Prop} {H : Hp} {σ : L2.St} {env : Ev} {a : Nat} {d : Addr} {ns : List Addr} {u : HO} {o : Obj} (h : KxA K M U H σ env a (d :: ns)) (du : Pk.DictO u) (hd : H d = some u) : KxA K M U (upd H d (.frz o u)) σ env a ns := fun T ds l e => by
  obtain ⟨A, kvs, k1, k2, k3, k4, k5⟩ := h T ds l e
  have lk := LkD.of (o := o) du hd
  refine ⟨A, kvs, k1, k2, lk.rd (fun _ _ z => by cases z) k3, k4.lk lk, fun k d' m n nb jvs rd => ?_⟩
  by_cases c : d' = d
  · subst c
    refine ⟨o, ?_⟩
    rw [upd_same]
    rcases rd with r | ⟨o', r⟩
    · rw [upd_same] at r; cases r
    · rw [upd_same] at r
      cases r
      rfl
  · have rd' : Rd H d' (.dK jvs) := rd.imp (fun r => by rw [upd_ne c] at r; exact r) fun ⟨o', r⟩ => ⟨o', by rw [upd_ne c] at r; exact r⟩
    obtain ⟨o', r⟩ := k5 k d' m (fun z => (List.mem_cons.mp z).elim c n) nb jvs rd'
    exact ⟨o', by rw [upd_ne c]; exact r⟩
theorem KxA.drop {K : PySem.W.Frag} {M : List Addr} {U : Addr → Prop} {H : Hp} {σ : L2.St} {env : Ev} {a : Nat} {d : Addr} {ns : List Addr} (h : KxA K M U H σ env a (d :: ns)) (c : ¬ ∃ u, Pk.DictO u ∧ H d = some u ∧ ¬ Bar M U d) : KxA K M U H σ env a ns := fun T ds l e => by
  obtain ⟨A, kvs, k1, k2, k3, k4, k5⟩ := h T ds l e
  refine ⟨A, kvs, k1, k2, k3, k4, fun k d' m n nb jvs rd => ?_⟩
  by_cases q : d' = d
  · subst q
    rcases rd with r | ⟨o', r⟩
    · exact absurd ⟨_, .inl ⟨jvs, rfl⟩, r, nb⟩ c
    · exact ⟨o', r⟩
  · exact k5 k d' m (fun z => (List.mem_cons.mp z).elim q n) nb jvs rd
end
end Pi

end
section
set_option Elab.async false
set_option linter.all false
set_option maxRecDepth 100000
set_option maxHeartbeats 1000000
namespace Pi
open PySem PySem.Spec PyProof.Rows L2
def OwW (σ : L2.St) (env : Ev) (a : Addr) : Prop := ∃ (i : Nat) (x : D), look env i = .ow x ∧ (σ[i]?).join = some (.ref a)
def UZ (Z : Addr → Prop) (σ : L2.St) (env : Ev) (a : Addr) : Prop := Z a ∨ OwV σ env a
def IsOw (s : Slot) : Prop := ∃ x, s = .ow x ∨ s = .lk x
structure SRl (K : PySem.W.Frag) (M : List Addr) (Z : Addr → Prop) (H : Hp) (st : Sto) (σ : L2.St) (env : Ev) : Prop where
  er : ER K M (UZ Z σ env) H st σ env
  ds : ∀ i j a, IsOw (look env i) → IsOw (look env j) → (σ[i]?).join = some (.ref a) → (σ[j]?).join = some (.ref a) → i = j
  nz : ∀ a, OwV σ env a → ¬ Z a
structure SSt (W : Addr → Prop) (M : List Addr) (H : Hp) (W' : Addr → Prop) (M' : List Addr) (H' : Hp) : Prop where
  pre : M <+: M'
  new : ∀ a ∈ M', a ∈ M ∨ H a = none
  fr : ∀ a o, a ∉ M → ¬ W a → H a = some o → H' a = some o
  w : ∀ a, W' a → W a ∨ H a = none
  th : ∀ a, (∃ o, H a = some o) → ∃ o, H' a = some o
def Lks (σ : L2.St) (env : Ev) (σ' : L2.St) (env' : Ev) : Prop := ∀ i x, look env' i = .lk x → look env i = .lk x ∧ (σ'[i]?).join = (σ[i]?).join
section
variable {K : PySem.W.Frag} {W W' W1 W2 : Addr → Prop} {M M' M1 M2 : List Addr} {U U' Z : Addr → Prop} {H H' H1 H2 : Hp} {st st' st1 : Sto} {σ σ' σ1 : L2.St} {env env' env1 : Ev}
theorem none_of_th (th : ∀ a, (∃ o, H a = some o) → ∃ o, H' a = some o) {a : Addr} (e : H' a = none) : H a = none := by
  cases q : H a with
  | none => rfl
  | some o =>
    obtain ⟨u, z⟩ := th a ⟨o, q⟩
    rw [e] at z; cases z
theorem SSt.refl (h : ∀ a, W' a → W a) : SSt W M H W' M H := ⟨List.prefix_refl _, fun _ h => .inl h, fun _ _ _ _ e => e, fun a z => .inl (h a z), fun _ z => z⟩
theorem SSt.trans (s : SSt W M H W1 M1 H1) (t : SSt W1 M1 H1 W2 M2 H2) : SSt W M H W2 M2 H2 where
  pre := s.pre.trans t.pre
  new := fun a h => (t.new a h).elim (s.new a) fun z => .inr (none_of_th s.th z)
  fr := fun a o n w e => t.fr a o (fun z => (s.new a z).elim n fun q => by rw [q] at e; cases e) (fun z => (s.w a z).elim w fun q => by rw [q] at e; cases e) (s.fr a o n w e)
  w := fun a h => (t.w a h).elim (s.w a) fun z => .inr (none_of_th s.th z)
  th := fun a h => t.th a (s.th a h)
theorem SSt.mono (s : SSt W M H W1 M1 H1) (h : ∀ a, W2 a → W1 a) : SSt W M H W2 M1 H1 := ⟨s.pre, s.new, s.fr, fun a z => s.w a (h a z), s.th⟩
theorem SSt.ofStp (s : Stp M H M1 H1) (so : StoOk K M1 U H1 st) (h : ∀ a, W' a → W a ∨ H a = none) : SSt W M H W' M1 H1 :=
  ⟨s.pre, s.new, fun a o n _ e => s.fr a o n e, h, fun a ⟨o, e⟩ => by
    by_cases n : a ∈ M
    · exact so.tracked a (.inl (s.mem n))
    · exact ⟨o, s.fr a o n e⟩⟩
theorem Lks.refl : Lks σ env σ env := fun _ _ h => ⟨h, rfl⟩
theorem Lks.trans (h : Lks σ env σ1 env1) (g : Lks σ1 env1 σ' env') : Lks σ env σ' env' := fun i x e => by
  obtain ⟨e1, q1⟩ := g i x e
  obtain ⟨e2, q2⟩ := h i x e1
  exact ⟨e2, q1.trans q2⟩
theorem OwW.v {a : Addr} (h : OwW σ env a) : OwV σ env a := by
  obtain ⟨i, x, e, q⟩ := h
  exact ⟨i, x, .inl e, q⟩
theorem SRl.step (r : SRl K M Z H st σ env) (s : Stp M H M1 H1) (so : StoOk K M1 (UZ Z σ env) H1 st1) : SRl K M1 Z H1 st1 σ env := ⟨r.er.step s so, r.ds, r.nz⟩
theorem less_keep (h : ∀ a, U' a → U a) : Keep (Bar M U) (Bar M U') H H := fun b o nb e => ⟨e, fun z => nb (z.elim .inl fun z => .inr (h b z))⟩
theorem rp_less {v : V} {x : PyData} (h : ∀ a, U' a → U a) (r : Rp K (Bar M U) H v x) : Rp K (Bar M U') H v x := r.keep fun b o nb e => ⟨e, fun z => nb (z.elim .inl fun z => .inr (h b z))⟩
theorem ow_less {a : Addr} {x : PyData} (h : ∀ a, U' a → U a) (r : OwAt K (Bar M U) H H a x) : OwAt K (Bar M U') H H a x := r.keep (fun b o nb e => ⟨e, fun z => nb (z.elim .inl fun z => .inr (h b z))⟩) fun _ e => e
theorem ER.less (er : ER K M U H st σ env) (h : ∀ a, U' a → U a) (hw : ∀ a, OwV σ env a → U' a) : ER K M U' H st σ env := by
  refine ⟨er.sto.less h, er.len, fun i => ?_⟩
  have q := er.env i
  cases hl : look env i with
  | no => trivial
  | sh x => rw [hl] at q; obtain ⟨v, e, r⟩ := q; exact ⟨v, e, rp_less h r⟩
  | kt y => rw [hl] at q; exact q.keep (less_keep h)
  | ow x => rw [hl] at q; obtain ⟨a, e, u, r⟩ := q; exact ⟨a, e, hw a ⟨i, x, .inl hl, e⟩, ow_less h r⟩
  | lk x => rw [hl] at q; obtain ⟨a, e, u, r⟩ := q; exact ⟨a, e, hw a ⟨i, x, .inr hl, e⟩, ow_less h r⟩
  | rf n => rw [hl] at q; exact q
def Sub (σ : L2.St) (env : Ev) (σ' : L2.St) (env' : Ev) : Prop := ∀ i, IsOw (look env' i) → look env' i = look env i ∧ (σ'[i]?).join = (σ[i]?).join
theorem Sub.v (h : Sub σ env σ' env') {a : Addr} (q : OwV σ' env' a) : OwV σ env a := by
  obtain ⟨i, x, e, q⟩ := q
  obtain ⟨h1, h2⟩ := h i ⟨x, e⟩
  exact ⟨i, x, by rw [← h1]; exact e, by rw [← h2]; exact q⟩
theorem Sub.w (h : Sub σ env σ' env') {a : Addr} (q : OwW σ' env' a) : OwW σ env a := by
  obtain ⟨i, x, e, q⟩ := q
  obtain ⟨h1, h2⟩ := h i ⟨x, .inl e⟩
  exact ⟨i, x, by rw [← h1]; exact e, by rw [← h2]; exact q⟩
theorem Sub.lks (h : Sub σ env σ' env') : Lks σ env σ' env' := fun i x e => by
  obtain ⟨h1, h2⟩ := h i ⟨x, .inr e⟩
  exact ⟨by rw [← h1]; exact e, h2⟩
theorem SRl.sub (r : SRl K M Z H st σ env) (s : Sub σ env σ' env') (er : ER K M1 (UZ Z σ env) H1 st1 σ' env') : SRl K M1 Z H1 st1 σ' env' where
  er := er.less (fun a z => z.elim .inl fun z => .inr (s.v z)) fun a z => .inr z
  ds := fun i j a hi hj e1 e2 => by
    obtain ⟨h1, h2⟩ := s i hi
    obtain ⟨h3, h4⟩ := s j hj
    exact r.ds i j a (h1 ▸ hi) (h3 ▸ hj) (h2 ▸ e1) (h4 ▸ e2)
  nz := fun a z => r.nz a (s.v z)
end
def NPost (K : PySem.W.Frag) (M : List Addr) (Z : Addr → Prop) (H : Hp) (σ : L2.St) (env : Ev) (st' : Sto) (env' : Ev) (Q : L2.St → Hp → Prop) : Prop :=
  ∀ M' H' σ', SSt (OwW σ env) M H (OwW σ' env') M' H' → Lks σ env σ' env' → SRl K M' Z H' st' σ' env' → Q σ' H'
def Non : Addr → Prop := fun _ => False
def RPost (K : PySem.W.Frag) (M : List Addr) (Z : Addr → Prop) (H : Hp) (W : Addr → Prop) (st' : Sto) (w : Vl) (Q : VK) : Prop := match w with
  | .d x => ∀ v H' M', SSt W M H Non M' H' → StoOk K M' Z H' st' → Rp K (Bar M' Z) H' v x → Q v H'
  | .fr x => ∀ a H' M', SSt W M H Non M' H' → (W a ∨ H a = none) → StoOk K M' (fun b => Z b ∨ b = a) H' st' → OwAt K (Bar M' fun b => Z b ∨ b = a) H' H' a x → Q (.ref a) H'
  | .rf n => ∀ a H' M', SSt W M H Non M' H' → StoOk K M' Z H' st' → M'[n]? = some a → Q (.ref a) H'
def FPost (K : PySem.W.Frag) (M : List Addr) (Z : Addr → Prop) (H : Hp) (σ : L2.St) (env : Ev) (f : Fl) (env' : Ev) (st' : Sto) (D : Ends) : Prop := match f with
  | .nx => NPost K M Z H σ env st' env' D.nx
  | .bk => NPost K M Z H σ env st' env' D.bk
  | .ct => NPost K M Z H σ env st' env' D.ct
  | .rt w => RPost K M Z H (OwW σ env) st' w D.rt
def SemS (K : PySem.W.Frag) (f : Ev → Sto → SR) : TS := fun D σ H => ∃ M Z st env fl env' st', SRl K M Z H st σ env ∧ f env st = some (fl, env', st') ∧ FPost K M Z H σ env fl env' st' D
section
variable {K : PySem.W.Frag} {M M' M1 M2 : List Addr} {U U' Z W W1 : Addr → Prop} {H H' H1 H2 : Hp} {st st' st1 : Sto} {σ σ' σ1 : L2.St} {env env' env1 : Ev} {D : Ends}
theorem RPost.go (s : SSt W M H W1 M1 H1) {w : Vl} {Q : VK} (q : RPost K M Z H W st' w Q) : RPost K M1 Z H1 W1 st' w Q := by
  cases w with
  | d x => exact fun v H' M' t so r => q v H' M' (s.trans t) so r
  | fr x => exact fun a H' M' t h so r => q a H' M' (s.trans t) (h.elim (s.w a) fun z => .inr (none_of_th s.th z)) so r
  | rf n => exact fun a H' M' t so r => q a H' M' (s.trans t) so r
theorem NPost.go (s : SSt (OwW σ env) M H (OwW σ1 env1) M1 H1) (l : Lks σ env σ1 env1) {Q : L2.St → Hp → Prop} (q : NPost K M Z H σ env st' env' Q) : NPost K M1 Z H1 σ1 env1 st' env' Q :=
  fun M' H' σ' t l' r => q M' H' σ' (s.trans t) (l.trans l') r
theorem FPost.go (s : SSt (OwW σ env) M H (OwW σ1 env1) M1 H1) (l : Lks σ env σ1 env1) {f : Fl} (q : FPost K M Z H σ env f env' st' D) : FPost K M1 Z H1 σ1 env1 f env' st' D := by
  cases f with
  | nx => exact NPost.go s l q
  | bk => exact NPost.go s l q
  | ct => exact NPost.go s l q
  | rt w => exact RPost.go s q
theorem FPost.read (s : Stp M H M1 H1) (so : StoOk K M1 U H1 st1) {f : Fl} (q : FPost K M Z H σ env f env' st' D) : FPost K M1 Z H1 σ env f env' st' D := q.go (SSt.ofStp s so fun _ z => .inl z) Lks.refl
theorem sem_pass (h : SemS K (fun env st => some (.nx, env, st)) D σ H) : tNext D σ H := by
  obtain ⟨M, Z, st, env, fl, env', st', r, e, q⟩ := h
  cases e
  exact q M H σ (SSt.refl fun _ z => z) Lks.refl r
theorem sem_brk (h : SemS K (fun env st => some (.bk, env, st)) D σ H) : tBreak D σ H := by
  obtain ⟨M, Z, st, env, fl, env', st', r, e, q⟩ := h
  cases e
  exact q M H σ (SSt.refl fun _ z => z) Lks.refl r
theorem sem_cnt (h : SemS K (fun env st => some (.ct, env, st)) D σ H) : tCont D σ H := by
  obtain ⟨M, Z, st, env, fl, env', st', r, e, q⟩ := h
  cases e
  exact q M H σ (SSt.refl fun _ z => z) Lks.refl r
theorem sem_never (h : SemS K (fun env st => none) D σ H) : tNever D σ H := by
  obtain ⟨M, Z, st, env, fl, env', st', r, e, q⟩ := h
  cases e
theorem sem_seq {f g : Ev → Sto → SR} (h : SemS K (fun env st => sbnd (f env st) g) D σ H) : tSeq (SemS K f) (SemS K g) D σ H := by
  obtain ⟨M, Z, st, env, fl, env', st', r, e, q⟩ := h
  have e : sbnd (f env st) g = some (fl, env', st') := e
  cases hf : f env st with
  | none => rw [show sbnd (f env st) g = none by rw [hf]; rfl] at e; cases e
  | some p =>
    obtain ⟨fl1, e1, s1⟩ := p
    cases fl1 with
    | nx =>
      have e : g e1 s1 = some (fl, env', st') := by rw [show sbnd (f env st) g = g e1 s1 by rw [hf]; rfl] at e; exact e
      exact ⟨M, Z, st, env, .nx, e1, s1, r, hf, fun M' H' σ' s l r' => ⟨M', Z, s1, e1, fl, env', st', r', e, q.go s l⟩⟩
    | bk =>
      rw [show sbnd (f env st) g = some (.bk, e1, s1) by rw [hf]; rfl] at e
      cases e
      exact ⟨M, Z, st, env, .bk, _, _, r, hf, q⟩
    | ct =>
      rw [show sbnd (f env st) g = some (.ct, e1, s1) by rw [hf]; rfl] at e
      cases e
      exact ⟨M, Z, st, env, .ct, _, _, r, hf, q⟩
    | rt w =>
      rw [show sbnd (f env st) g = some (.rt w, e1, s1) by rw [hf]; rfl] at e
      cases e
      exact ⟨M, Z, st, env, .rt w, _, _, r, hf, q⟩
theorem sem_if {c : Ev → Sto → Option (Bool × Sto)} {f g : Ev → Sto → SR} (h : SemS K (fun env st => match c env st with | some (true, s) => f env s | some (false, s) => g env s | none => none) D σ H) : tIfS (SemT K c) (SemS K f) (SemS K g) D σ H := by
  obtain ⟨M, Z, st, env, fl, env', st', r, e, q⟩ := h
  cases hc : c env st with
  | none => simp only [hc] at e; cases e
  | some p =>
    obtain ⟨b, s1⟩ := p
    refine ⟨M, _, st, env, b, s1, r.er, hc, fun H1 M1 s so => ?_⟩
    cases b with
    | true =>
      simp only [hc] at e
      rw [if_pos rfl]
      exact ⟨M1, Z, s1, env, fl, env', st', r.step s so, e, q.read s so⟩
    | false =>
      simp only [hc] at e
      rw [if_neg Bool.false_ne_true]
      exact ⟨M1, Z, s1, env, fl, env', st', r.step s so, e, q.read s so⟩
theorem sem_asg {f : Ev → Sto → Option (PyData × Sto)} {t : Tg} (h : SemS K (fun env st => match f env st with | some (x, s) => (bindT t x env).map fun e1 => (.nx, e1, s) | none => none) D σ H) : tAsg (SemD K f) (tgR K t) D σ H := by
  obtain ⟨M, Z, st, env, fl, env', st', r, e, q⟩ := h
  cases hf : f env st with
  | none => simp only [hf] at e; cases e
  | some p =>
    obtain ⟨x, s1⟩ := p
    simp only [hf] at e
    obtain ⟨e1, hb, e⟩ := Option.map_eq_some_iff.mp e
    cases e
    refine ⟨M, _, st, env, x, st', r.er, hf, fun v H1 M1 s so rv => bind_ok t (r.er.step s so) rv hb fun σ' er' hl ag => ?_⟩
    have sub : Sub σ env σ' env' := fun i ⟨y, hy⟩ => by
      rcases (bind_look t hb).2 i with ⟨h1, h2⟩ | ⟨z, h1⟩
      · exact ⟨h1, by rw [ag i h2]⟩
      · rw [h1] at hy; rcases hy with hy | hy <;> cases hy
    exact q M1 H1 σ' (SSt.ofStp s so fun a z => .inl (sub.w z)) sub.lks (r.sub sub er')
theorem sem_own {f : Ev → Sto → Option (Vl × Sto)} {i : Nat} (h : SemS K (fun env st => match f env st with | some (.fr x, s) => (ownAt env i x).map fun env' => (.nx, env', s) | _ => none) D σ H) : tAsg (SemE K f) (gName i) D σ H := by
  obtain ⟨M, Z, st, env, fl, env', st', r, e, q⟩ := h
  cases hf : f env st with
  | none => simp only [hf] at e; cases e
  | some p =>
    obtain ⟨w, s1⟩ := p
    cases w with
    | d x => simp only [hf] at e; cases e
    | rf x => simp only [hf] at e; cases e
    | fr x =>
      simp only [hf] at e
      obtain ⟨e1, hb, e⟩ := Option.map_eq_some_iff.mp e
      cases e
      obtain ⟨hi, hb⟩ := dec2 (show (if i < env.length then some (env.set i (.ow x)) else none) = some env' from hb)
      subst hb
      refine ⟨M, _, st, env, _, st', r.er, hf, fun a H1 M1 s na so ow => ?_⟩
      have hi' : i < σ.length := by rw [← r.er.len]; exact hi
      have lk : ∀ j, look (env.set i (.ow x)) j = if j = i then .ow x else look env j := fun j => look_set env i j _ hi
      have lv : ∀ j, ((σ.set i (some (.ref a)))[j]?).join = if j = i then some (.ref a) else (σ[j]?).join := fun j => join_set σ i j _ hi'
      have vv : ∀ b, OwV (σ.set i (some (.ref a))) (env.set i (.ow x)) b → (OwV σ env b ∧ b ≠ a) ∨ b = a := fun b ⟨j, y, h1, h2⟩ => by
        rw [lk] at h1
        rw [lv] at h2
        by_cases c : j = i
        · rw [if_pos c] at h2; cases h2; exact .inr rfl
        · rw [if_neg c] at h1 h2
          have hv : OwV σ env b := ⟨j, y, h1, h2⟩
          exact .inl ⟨hv, fun z => by
            obtain ⟨o, e⟩ := r.er.sto.tr b (.inr hv)
            rw [z, na] at e; cases e⟩
      have er1 : ER K M1 (fun b => UZ Z σ env b ∨ b = a) H1 st' (σ.set i (some (.ref a))) (env.set i (.ow x)) := by
        refine ⟨so, by rw [List.length_set, List.length_set]; exact r.er.len, fun j => ?_⟩
        rw [lk, lv]
        by_cases c : j = i
        · rw [if_pos c, if_pos c]; exact ⟨a, rfl, .inr rfl, ow⟩
        · rw [if_neg c, if_neg c]; exact slr_more s r.er.sto.ap r.er.sto.tr na so (r.er.env j)
      refine q M1 H1 _ (SSt.ofStp s so fun b z => ?_) (fun j y hy => ?_) ⟨er1.less (fun b z => ?_) (fun b z => Or.inr z), fun j k b hj hk e1 e2 => ?_, fun b z => ?_⟩
      · obtain ⟨j, y, h1, h2⟩ := z
        rw [lk] at h1
        rw [lv] at h2
        by_cases c : j = i
        · rw [if_pos c] at h2; cases h2; exact .inr na
        · rw [if_neg c] at h1 h2; exact .inl ⟨j, y, h1, h2⟩
      · rw [lk] at hy
        rw [lv]
        by_cases c : j = i
        · rw [if_pos c] at hy; cases hy
        · rw [if_neg c] at hy ⊢; exact ⟨hy, rfl⟩
      · rcases z with z | z
        · exact .inl (.inl z)
        · rcases vv b z with z | z
          · exact .inl (.inr z.1)
          · exact .inr z
      · rw [lk] at hj hk
        rw [lv] at e1 e2
        have out : ∀ l, IsOw (look env l) → (σ[l]?).join = some (.ref a) → False := fun l ⟨y, hy⟩ q => by
          obtain ⟨o, e⟩ := r.er.sto.tr a (.inr ⟨l, y, hy, q⟩)
          rw [na] at e; cases e
        by_cases c : j = i
        · by_cases c' : k = i
          · rw [c, c']
          · rw [if_pos c] at e1; cases e1
            rw [if_neg c'] at hk e2
            exact (out k hk e2).elim
        · by_cases c' : k = i
          · rw [if_pos c'] at e2; cases e2
            rw [if_neg c] at hj e1
            exact (out j hj e1).elim
          · rw [if_neg c] at hj e1
            rw [if_neg c'] at hk e2
            exact r.ds j k b hj hk e1 e2
      · rcases vv b z with z | z
        · exact r.nz b z.1
        · subst z
          intro hz
          obtain ⟨o, e⟩ := r.er.sto.tr b (.inl hz)
          rw [na] at e; cases e
end
end Pi

end
section
set_option Elab.async false
set_option linter.all false
set_option maxRecDepth 100000
set_option maxHeartbeats 1000000
namespace Pi
open PySem PySem.Spec PyProof.Rows L2
section
variable {K : PySem.W.Frag} {M M' M1 M2 : List Addr} {U U' Z W W1 : Addr → Prop} {H H' H1 H2 : Hp} {st st' st1 : Sto} {σ σ' σ1 : L2.St} {env env' env1 : Ev} {D : Ends}
theorem look_lt {i : Nat} (h : look env i ≠ .no) : i < env.length := by
  by_cases c : i < env.length
  · exact c
  · exact absurd (by unfold look; rw [List.getD_eq_getElem?_getD, List.getElem?_eq_none (by omega)]; rfl) h
theorem SRl.froz {i : Nat} {x : PyData} (r : SRl K M Z H st σ env) (hl : look env i = .ow x) : SRl K M Z H st σ (env.set i (.sh x)) ∧ (∀ a, OwW σ (env.set i (.sh x)) a → OwW σ env a) ∧ Lks σ env σ (env.set i (.sh x)) := by
  have hi : i < env.length := look_lt (by rw [hl]; exact fun z => nomatch z)
  have lk : ∀ j, look (env.set i (.sh x)) j = if j = i then .sh x else look env j := fun j => look_set env i j _ hi
  have ne : ∀ j, IsOw (look (env.set i (.sh x)) j) → j ≠ i ∧ look (env.set i (.sh x)) j = look env j := fun j ⟨y, hy⟩ => by
    rw [lk] at hy ⊢
    by_cases c : j = i
    · rw [if_pos c] at hy; rcases hy with hy | hy <;> cases hy
    · rw [if_neg c]; exact ⟨c, rfl⟩
  have sub : Sub σ env σ (env.set i (.sh x)) := fun j hj => ⟨(ne j hj).2, rfl⟩
  have le : ∀ a, UZ Z σ (env.set i (.sh x)) a → UZ Z σ env a := fun a z => z.elim .inl fun z => .inr (sub.v z)
  refine ⟨⟨⟨r.er.sto.less le, by rw [List.length_set]; exact r.er.len, fun j => ?_⟩, fun j k a hj hk e1 e2 => ?_, fun a z => r.nz a (sub.v z)⟩, fun a => sub.w, sub.lks⟩
  · rw [lk]
    have q := r.er.env j
    by_cases c : j = i
    · rw [if_pos c]
      subst c
      rw [hl] at q
      obtain ⟨a, e, u, ow⟩ := q
      refine ⟨_, e, OwAt.rp (fun z => ?_) (ow_less le ow)⟩
      have hv : OwV σ env a := ⟨j, x, .inl hl, e⟩
      rcases z with z | z | z
      · exact r.er.sto.ap a z u
      · exact r.nz a hv z
      · obtain ⟨k, y, h1, h2⟩ := z
        obtain ⟨h3, h4⟩ := ne k ⟨y, h1⟩
        rw [h4] at h1
        exact h3 (r.ds k j a ⟨y, h1⟩ ⟨x, .inl hl⟩ h2 e)
    · rw [if_neg c]
      have lj : look (env.set i (.sh x)) j = look env j := by rw [lk, if_neg c]
      cases h2 : look env j with
      | no => trivial
      | sh y => rw [h2] at q; obtain ⟨v, e, rr⟩ := q; exact ⟨v, e, rp_less le rr⟩
      | kt y => rw [h2] at q; exact q.keep (less_keep le)
      | ow y => rw [h2] at q; obtain ⟨a, e, u, ow⟩ := q; exact ⟨a, e, .inr ⟨j, y, .inl (lj.trans h2), e⟩, ow_less le ow⟩
      | lk y => rw [h2] at q; obtain ⟨a, e, u, ow⟩ := q; exact ⟨a, e, .inr ⟨j, y, .inr (lj.trans h2), e⟩, ow_less le ow⟩
      | rf n => rw [h2] at q; exact q
  · exact r.ds j k a ((ne j hj).2 ▸ hj) ((ne k hk).2 ▸ hk) e1 e2
theorem SRl.freeze : ∀ (is : List Nat) {env env1 : Ev}, SRl K M Z H st σ env → freeze env is = some env1 → SRl K M Z H st σ env1 ∧ (∀ a, OwW σ env1 a → OwW σ env a) ∧ Lks σ env σ env1
  | [], env, env1, r, e => by cases e; exact ⟨r, fun _ z => z, Lks.refl⟩
  | i :: is, env, env1, r, e => by
    have e : (match look env i with | .ow x => Pi.freeze (env.set i (.sh x)) is | .sh _ => Pi.freeze env is | _ => none) = some env1 := e
    cases hl : look env i with
    | ow x =>
      rw [hl] at e
      obtain ⟨r1, w1, l1⟩ := r.froz hl
      obtain ⟨r2, w2, l2⟩ := SRl.freeze is r1 e
      exact ⟨r2, fun a z => w1 a (w2 a z), l1.trans l2⟩
    | sh x => rw [hl] at e; exact SRl.freeze is r e
    | no => rw [hl] at e; cases e
    | lk x => rw [hl] at e; cases e
    | rf n => rw [hl] at e; cases e
    | kt n => rw [hl] at e; cases e
theorem sem_fz {is : List Nat} {f : Ev → Sto → SR} (h : SemS K (fun env st => match freeze env is with | some e1 => f e1 st | none => none) D σ H) : SemS K f D σ H := by
  obtain ⟨M, Z, st, env, fl, env', st', r, e, q⟩ := h
  cases hf : Pi.freeze env is with
  | none => simp only [hf] at e; cases e
  | some e1 =>
    simp only [hf] at e
    obtain ⟨r1, w1, l1⟩ := r.freeze is hf
    exact ⟨M, Z, st, e1, fl, env', st', r1, e, q.go (SSt.refl w1) l1⟩
theorem SRl.upd {i : Nat} {x y : PyData} {a : Addr} {o : HO} (r : SRl K M Z H st σ env) (hl : look env i = .ow x) (ha : (σ[i]?).join = some (.ref a)) (hx : OwAt K (Bar M (UZ Z σ env)) (L2.upd H a o) (L2.upd H a o) a y) :
    SRl K M Z (L2.upd H a o) st σ (env.set i (.ow y)) ∧ SSt (OwW σ env) M H (OwW σ (env.set i (.ow y))) M (L2.upd H a o) ∧ Lks σ env σ (env.set i (.ow y)) := by
  have hi : i < env.length := look_lt (by rw [hl]; exact fun z => nomatch z)
  have lk : ∀ j, look (env.set i (.ow y)) j = if j = i then .ow y else look env j := fun j => look_set env i j _ hi
  have io : ∀ j, IsOw (look (env.set i (.ow y)) j) → IsOw (look env j) := fun j hj => by
    rw [lk] at hj
    by_cases c : j = i
    · rw [c]; exact ⟨x, .inl hl⟩
    · rw [if_neg c] at hj; exact hj
  have vv : ∀ b, OwV σ (env.set i (.ow y)) b → OwV σ env b := fun b ⟨j, z, h1, h2⟩ => by
    obtain ⟨w, hw⟩ := io j ⟨z, h1⟩
    exact ⟨j, w, hw, h2⟩
  have ww : ∀ b, OwW σ (env.set i (.ow y)) b → OwW σ env b := fun b ⟨j, z, h1, h2⟩ => by
    rw [lk] at h1
    by_cases c : j = i
    · exact ⟨i, x, hl, c ▸ h2⟩
    · rw [if_neg c] at h1; exact ⟨j, z, h1, h2⟩
  have vb : ∀ b, OwV σ env b → OwV σ (env.set i (.ow y)) b := fun b ⟨j, z, h1, h2⟩ => by
    by_cases c : j = i
    · exact ⟨i, y, .inl (by rw [lk, if_pos rfl]), c ▸ h2⟩
    · exact ⟨j, z, by rw [lk, if_neg c]; exact h1, h2⟩
  have hv : OwV σ env a := ⟨i, x, .inl hl, ha⟩
  have u : UZ Z σ env a := .inr hv
  have er1 : ER K M (UZ Z σ env) (L2.upd H a o) st σ (env.set i (.ow y)) := by
    refine ⟨r.er.sto.upd u (by obtain ⟨o', e', n⟩ := hx.someN; rw [upd_same] at e'; cases e'; exact n), by rw [List.length_set]; exact r.er.len, fun j => ?_⟩
    rw [lk]
    by_cases c : j = i
    · rw [if_pos c, c]; exact ⟨a, ha, u, hx⟩
    · rw [if_neg c]
      have q := r.er.env j
      have ow : ∀ {b z}, IsOw (look env j) → (σ[j]?).join = some (.ref b) → OwAt K (Bar M (UZ Z σ env)) H H b z → OwAt K (Bar M (UZ Z σ env)) (L2.upd H a o) (L2.upd H a o) b z := fun {b z} hj e w => w.keep (keepU u) fun o' e' => by
        rw [upd_ne fun (qq : b = a) => c (r.ds j i a hj ⟨x, .inl hl⟩ (by rw [← qq]; exact e) ha)]; exact e'
      cases h2 : look env j with
      | no => trivial
      | sh z => rw [h2] at q; obtain ⟨v, e, rr⟩ := q; exact ⟨v, e, rr.keep (keepU u)⟩
      | kt z => rw [h2] at q; exact q.keep (keepU u)
      | ow z => have h3 : IsOw (look env j) := ⟨z, .inl h2⟩; rw [h2] at q; obtain ⟨b, e, u', w⟩ := q; exact ⟨b, e, u', ow h3 e w⟩
      | lk z => have h3 : IsOw (look env j) := ⟨z, .inr h2⟩; rw [h2] at q; obtain ⟨b, e, u', w⟩ := q; exact ⟨b, e, u', ow h3 e w⟩
      | rf n => rw [h2] at q; exact q
  refine ⟨⟨er1.less (fun b z => z.elim .inl fun z => .inr (vv b z)) (fun b z => .inr z), fun j k b hj hk e1 e2 => r.ds j k b (io j hj) (io k hk) e1 e2, fun b z => r.nz b (vv b z)⟩,
    ⟨List.prefix_refl _, fun _ h => .inl h, fun b o' n w e => ?_, fun b z => .inl (ww b z), fun b ⟨o', e⟩ => ?_⟩, fun j z hz => ?_⟩
  · rw [upd_ne fun q => w (by rw [q]; exact ⟨i, x, hl, ha⟩)]; exact e
  · by_cases c : b = a
    · subst c; exact ⟨_, upd_same⟩
    · exact ⟨o', by rw [upd_ne c]; exact e⟩
  · rw [lk] at hz
    by_cases c : j = i
    · rw [if_pos c] at hz; cases hz
    · rw [if_neg c] at hz; exact ⟨hz, rfl⟩
theorem sem_app {f : Ev → Sto → Option (PyData × Sto)} {i : Nat} (h : SemS K (fun env st => match f env st with
    | some (y, s) => (match look env i with
      | .ow (.list xs) => if xs.length < SL then some (.nx, env.set i (.ow (.list (xs ++ [y]))), s) else none
      | _ => none)
    | none => none) D σ H) : tDrop (tBM K "list" rAppend (tVar i) (tCons (SemD K f) tNil)) D σ H := by
  obtain ⟨M, Z, st, env, fl, env', st', r, e, q⟩ := h
  cases hf : f env st with
  | none => simp only [hf] at e; cases e
  | some p =>
    obtain ⟨y, s1⟩ := p
    simp only [hf] at e
    cases hl : look env i with
    | ow z =>
      cases z with
      | list xs =>
        simp only [hl] at e
        obtain ⟨hz, e⟩ : xs.length < SL ∧ some (Fl.nx, env.set i (.ow (.list (xs ++ [y]))), s1) = some (fl, env', st') := by
          split at e
          · exact ⟨‹_›, e⟩
          · cases e
        cases e
        have sl := r.er.env i
        rw [hl] at sl
        obtain ⟨a, ha, u, vs, hv, ra⟩ := sl
        refine ⟨_, join_some ha, Or.inl ⟨rfl, vs, .inl (.inl hv)⟩, ?_⟩
        refine ⟨M, _, st, env, y, _, r.er, hf, fun v H1 M1 s so rv => ?_⟩
        have nM : a ∉ M := fun z => r.er.sto.ap a z u
        have hv1 : H1 a = some (.lst vs) := s.fr a _ nM hv
        have ra1 := ra.step s
        refine ⟨a, vs, v, rfl, rfl, hv1, Nat.lt_of_lt_of_le (by rw [ra.length]; exact hz) (by decide), ?_⟩
        obtain ⟨r2, s2, l2⟩ := (r.step s so).upd (o := .lst (vs ++ [v])) (y := .list (xs ++ [y])) hl ha ⟨_, upd_same, (ra1.append (.one rv)).keep (keepU u)⟩
        exact q _ _ _ ((SSt.ofStp s so fun _ z => .inl z).trans s2) l2 r2
      | none => simp only [hl] at e; cases e
      | bool b => simp only [hl] at e; cases e
      | int b => simp only [hl] at e; cases e
      | str b => simp only [hl] at e; cases e
      | tuple b => simp only [hl] at e; cases e
      | dict b => simp only [hl] at e; cases e
    | no => simp only [hl] at e; cases e
    | sh x => simp only [hl] at e; cases e
    | lk x => simp only [hl] at e; cases e
    | rf n => simp only [hl] at e; cases e
    | kt n => simp only [hl] at e; cases e
theorem sem_ext {f : Ev → Sto → Option (Vl × Sto)} {i : Nat} (h : SemS K (fun env st => match f env st with
    | some (.fr (.list ys), s) => (match look env i with
      | .ow (.list xs) => if xs.length + ys.length ≤ SL then some (.nx, env.set i (.ow (.list (xs ++ ys))), s) else none
      | _ => none)
    | _ => none) D σ H) : tDrop (tBM K "list" rExtend (tVar i) (tCons (SemE K f) tNil)) D σ H := by
  obtain ⟨M, Z, st, env, fl, env', st', r, e, q⟩ := h
  have hz : ∃ ys s1 xs, f env st = some (.fr (.list ys), s1) ∧ look env i = .ow (.list xs) ∧ xs.length + ys.length ≤ SL ∧ some (Fl.nx, env.set i (.ow (.list (xs ++ ys))), s1) = some (fl, env', st') := by
    simp only [] at e
    split at e
    · split at e
      · split at e
        · exact ⟨_, _, _, ‹_›, ‹_›, ‹_›, e⟩
        · cases e
      · cases e
    · cases e
  obtain ⟨ys, s1, xs, hf, hl, hz, e⟩ := hz
  cases e
  have sl := r.er.env i
  rw [hl] at sl
  obtain ⟨a, ha, u, vs, hv, ra⟩ := sl
  refine ⟨_, join_some ha, Or.inl ⟨rfl, vs, .inl (.inl hv)⟩, ?_⟩
  refine ⟨M, _, st, env, _, _, r.er, hf, fun b H1 M1 s nb so ow => ?_⟩
  obtain ⟨us, hb, rb⟩ := ow
  have nM : a ∉ M := fun z => r.er.sto.ap a z u
  have hv1 : H1 a = some (.lst vs) := s.fr a _ nM hv
  have ra1 := ra.step s
  have so1 : StoOk K M1 (UZ Z σ env) H1 st' := so.less fun c z => .inl z
  have rb1 : RpAll K (Bar M1 (UZ Z σ env)) H1 us ys := rb.keep fun c o nc e => ⟨e, fun z => nc (z.elim .inl fun z => .inr (.inl z))⟩
  refine ⟨a, b, vs, us, rfl, rfl, hv1, hb, by rw [ra.length, rb.length]; exact hz, ?_⟩
  obtain ⟨r2, s2, l2⟩ := (r.step s so1).upd (o := .lst (vs ++ us)) (y := .list (xs ++ ys)) hl ha ⟨_, upd_same, (ra1.append rb1).keep (keepU u)⟩
  exact q _ _ _ ((SSt.ofStp s so1 fun _ z => .inl z).trans s2) l2 r2
def pend (sl : Slot) (v : V) (b : Addr) : Prop := (∃ x, sl = .ow x) ∧ v = .ref b
theorem slr_moreP {P : Addr → Prop} (p : Stp M H M' H') (ap : ∀ a ∈ M, ¬ U a) (np : ∀ a, P a → H a = none) {sl : Slot} {o : Option V} (h : SltR K M U H sl o) : SltR K M' (fun b => U b ∨ P b) H' sl o := by
  have kp : Keep (Bar M U) (Bar M' fun b => U b ∨ P b) H H' := fun b o nb e => ⟨(p.keep b o nb e).1, fun z => by
    rcases z with z | z | z
    · exact (p.keep b o nb e).2 (.inl z)
    · exact (p.keep b o nb e).2 (.inr z)
    · rw [np b z] at e; cases e⟩
  have ow : ∀ {b x}, U b → OwAt K (Bar M U) H H b x → OwAt K (Bar M' fun b => U b ∨ P b) H' H' b x := fun {b x} u q => q.keep kp fun o e => p.fr b o (fun z => ap b z u) e
  cases sl with
  | no => trivial
  | sh x => obtain ⟨v, e, r⟩ := h; exact ⟨v, e, r.keep kp⟩
  | kt y => exact h.keep kp
  | ow x => obtain ⟨b, e, u, q⟩ := h; exact ⟨b, e, .inl u, ow u q⟩
  | lk x => obtain ⟨b, e, u, q⟩ := h; exact ⟨b, e, .inl u, ow u q⟩
  | rf n =>
    obtain ⟨b, e, q⟩ := h
    refine ⟨b, ?_, q⟩
    obtain ⟨t, rfl⟩ := p.pre
    rw [List.getElem?_append_left (List.getElem?_eq_some_iff.mp e).1]
    exact e
theorem sltr_less {U' : Addr → Prop} {sl : Slot} {o : Option V} (h : SltR K M U H sl o) (g : ∀ b, U' b → U b) (hw : ∀ a x, (sl = .ow x ∨ sl = .lk x) → o = some (.ref a) → U' a) : SltR K M U' H sl o := by
  cases sl with
  | no => trivial
  | sh x => obtain ⟨v, e, r⟩ := h; exact ⟨v, e, rp_less g r⟩
  | kt y => exact h.keep (less_keep g)
  | ow x => obtain ⟨b, e, u, q⟩ := h; exact ⟨b, e, hw b x (.inl rfl) e, ow_less g q⟩
  | lk x => obtain ⟨b, e, u, q⟩ := h; exact ⟨b, e, hw b x (.inr rfl) e, ow_less g q⟩
  | rf n => exact h
theorem SRl.put {sl : Slot} {v : V} {i : Nat} (hs : (∃ x, sl = .sh x) ∨ ∃ x, sl = .ow x) (r : SRl K M (fun b => Z b ∨ pend sl v b) H st σ env) (hi : i < env.length) (h : SltR K M (UZ (fun b => Z b ∨ pend sl v b) σ env) H sl (some v)) (hz : ∀ b, pend sl v b → ¬ Z b) :
    SRl K M Z H st (σ.set i (some v)) (env.set i sl) ∧ (∀ b, OwW (σ.set i (some v)) (env.set i sl) b → OwW σ env b ∨ pend sl v b) ∧ Lks σ env (σ.set i (some v)) (env.set i sl) := by
  have hi' : i < σ.length := by rw [← r.er.len]; exact hi
  have lk : ∀ j, look (env.set i sl) j = if j = i then sl else look env j := fun j => look_set env i j _ hi
  have lv : ∀ j, ((σ.set i (some v))[j]?).join = if j = i then some v else (σ[j]?).join := fun j => join_set σ i j _ hi'
  have pn : ∀ b x, (sl = .ow x ∨ sl = .lk x) → some v = some (V.ref b) → pend sl v b := fun b x hx e => by
    cases e
    rcases hx with hx | hx
    · exact ⟨⟨x, hx⟩, rfl⟩
    · rcases hs with ⟨y, hy⟩ | ⟨y, hy⟩ <;> (rw [hy] at hx; cases hx)
  have vv : ∀ b, OwV (σ.set i (some v)) (env.set i sl) b → OwV σ env b ∨ pend sl v b := fun b ⟨j, y, h1, h2⟩ => by
    rw [lk] at h1
    rw [lv] at h2
    by_cases c : j = i
    · rw [if_pos c] at h1 h2; exact .inr (pn b y h1 h2)
    · rw [if_neg c] at h1 h2; exact .inl ⟨j, y, h1, h2⟩
  have er1 : ER K M (UZ (fun b => Z b ∨ pend sl v b) σ env) H st (σ.set i (some v)) (env.set i sl) := by
    refine ⟨r.er.sto, by rw [List.length_set, List.length_set]; exact r.er.len, fun j => ?_⟩
    rw [lk, lv]
    by_cases c : j = i
    · rw [if_pos c, if_pos c]; exact h
    · rw [if_neg c, if_neg c]; exact r.er.env j
  refine ⟨⟨er1.less (fun b z => ?_) fun b z => Or.inr z, fun j k b hj hk e1 e2 => ?_, fun b z => ?_⟩, fun b z => ?_, fun j y hy => ?_⟩
  · rcases z with z | z
    · exact .inl (.inl z)
    · rcases vv b z with z | z
      · exact .inr z
      · exact .inl (.inr z)
  · rw [lk] at hj hk
    rw [lv] at e1 e2
    have out : ∀ l, IsOw (look env l) → (σ[l]?).join = some (.ref b) → pend sl v b → False := fun l ⟨y, hy⟩ q p => r.nz b ⟨l, y, hy, q⟩ (.inr p)
    by_cases c : j = i
    · by_cases c' : k = i
      · rw [c, c']
      · rw [if_pos c] at hj e1
        rw [if_neg c'] at hk e2
        obtain ⟨y, hy⟩ := hj
        exact (out k hk e2 (pn b y hy e1)).elim
    · by_cases c' : k = i
      · rw [if_pos c'] at hk e2
        rw [if_neg c] at hj e1
        obtain ⟨y, hy⟩ := hk
        exact (out j hj e1 (pn b y hy e2)).elim
      · rw [if_neg c] at hj e1
        rw [if_neg c'] at hk e2
        exact r.ds j k b hj hk e1 e2
  · rcases vv b z with z | z
    · exact fun hb => r.nz b z (.inl hb)
    · exact hz b z
  · obtain ⟨j, y, h1, h2⟩ := z
    rw [lk] at h1
    rw [lv] at h2
    by_cases c : j = i
    · rw [if_pos c] at h1 h2; exact .inr (pn b y (.inl h1) h2)
    · rw [if_neg c] at h1 h2; exact .inl ⟨j, y, h1, h2⟩
  · rw [lk] at hy
    rw [lv]
    by_cases c : j = i
    · rw [if_pos c] at hy
      rcases hs with ⟨z, hz'⟩ | ⟨z, hz'⟩ <;> (rw [hz'] at hy; cases hy)
    · rw [if_neg c] at hy ⊢; exact ⟨hy, rfl⟩
theorem slotP_kind {o : Bool} {w : Vl} {sl : Slot} (h : slotP o w = some sl) : (∃ x, sl = .sh x) ∨ ∃ x, sl = .ow x := by
  cases o with
  | true => cases w <;> first | (cases h; exact .inr ⟨_, rfl⟩) | cases h
  | false => cases w <;> first | (cases h; exact .inl ⟨_, rfl⟩) | cases h
theorem EPost.wait {o : Bool} {w : Vl} {sl : Slot} {Q : VK} (tr : ∀ a, U a → ∃ o, H a = some o) (h : slotP o w = some sl)
    (q : ∀ v H' M', Stp M H M' H' → (∀ b, pend sl v b → H b = none) → StoOk K M' (fun b => U b ∨ pend sl v b) H' st' → SltR K M' (fun b => U b ∨ pend sl v b) H' sl (some v) → Q v H') : EPost K M U H st' w Q := by
  cases o with
  | true =>
    cases w with
    | fr x =>
      cases h
      intro a H' M' s na so ow
      have e : ∀ b, pend (.ow x) (.ref a) b ↔ b = a := fun b => ⟨fun ⟨_, z⟩ => (by cases z; rfl), fun z => ⟨⟨x, rfl⟩, by rw [z]⟩⟩
      refine q _ H' M' s (fun b z => by rw [(e b).mp z]; exact na) (so.less fun b z => z.elim .inl fun z => .inr ((e b).mp z)) ⟨a, rfl, .inr ((e a).mpr rfl), ?_⟩
      exact ow_less (fun b z => z.elim .inl fun z => .inr ((e b).mp z)) ow
    | d x => cases h
    | rf n => cases h
  | false =>
    obtain ⟨x, hx, e⟩ := Option.map_eq_some_iff.mp (show w.toD.map Slot.sh = some sl by cases w <;> exact h)
    subst e
    have np : ∀ v b, ¬ pend (.sh x) v b := fun v b ⟨⟨y, z⟩, _⟩ => (by cases z)
    refine EPost.toD tr hx fun v H' M' s so rv => q v H' M' s (fun b z => (np _ _ z).elim) (so.less fun b z => z.elim id fun z => (np _ _ z).elim) ⟨v, rfl, rp_less (fun b z => z.elim id fun z => (np _ _ z).elim) rv⟩
theorem sem_par_at {g : Ev → Sto → Option (Vl × Sto)} {i j : Nat} {oi oj : Bool} {w u : Vl} {sa sb : Slot} {s : Sto} (r : SRl K M Z H st σ env) (hg : g env s = some (u, st')) (ha : slotP oi w = some sa) (hb : slotP oj u = some sb) (hij : i ≠ j) (hi : i < env.length) (hj : j < env.length)
    {Nx : L2.St → Hp → Prop} (q : NPost K M Z H σ env st' ((env.set i sa).set j sb) Nx) : EPost K M (UZ Z σ env) H s w (fun v H1 => SemE K g σ H1 fun w2 H2 => Nx ((σ.set i (some v)).set j (some w2)) H2) := EPost.wait r.er.sto.tr ha fun v H1 M1 p np so hv => by
  -- behind the first
  have eq1 : ∀ b, UZ (fun b => Z b ∨ pend sa v b) σ env b ↔ (UZ Z σ env b ∨ pend sa v b) := fun b => ⟨fun z => by
    rcases z with (z | z) | z
    · exact .inl (.inl z)
    · exact .inr z
    · exact .inl (.inr z), fun z => by
    rcases z with (z | z) | z
    · exact .inl (.inl z)
    · exact .inr z
    · exact .inl (.inr z)⟩
  have er1 : ER K M1 (fun b => UZ Z σ env b ∨ pend sa v b) H1 s σ env := ⟨so, r.er.len, fun k => slr_moreP p r.er.sto.ap np (r.er.env k)⟩
  have r1 : SRl K M1 (fun b => Z b ∨ pend sa v b) H1 s σ env := ⟨er1.less (fun b z => (eq1 b).mp z) fun b z => .inr z, r.ds, fun b z hz => hz.elim (r.nz b z) fun hz => by
    obtain ⟨o, e⟩ := r.er.sto.tr b (.inr z)
    rw [np b hz] at e; cases e⟩
  have hv1 : SltR K M1 (UZ (fun b => Z b ∨ pend sa v b) σ env) H1 sa (some v) := sltr_less hv (fun b z => (eq1 b).mp z) fun a x hx e => by
    cases e
    refine (eq1 a).mpr (.inr ?_)
    rcases slotP_kind ha with ⟨y, hy⟩ | ⟨y, hy⟩
    · subst hy; rcases hx with hx | hx <;> cases hx
    · exact ⟨⟨y, hy⟩, rfl⟩
  refine ⟨M1, _, s, env, u, st', r1.er, hg, EPost.wait r1.er.sto.tr hb fun v2 H2 M2 p2 np2 so2 hv2 => ?_⟩
  have eq2 : ∀ b, UZ (fun b => (Z b ∨ pend sa v b) ∨ pend sb v2 b) σ env b ↔ (UZ (fun b => Z b ∨ pend sa v b) σ env b ∨ pend sb v2 b) := fun b => ⟨fun z => by
    rcases z with (z | z) | z
    · exact .inl (.inl z)
    · exact .inr z
    · exact .inl (.inr z), fun z => by
    rcases z with (z | z) | z
    · exact .inl (.inl z)
    · exact .inr z
    · exact .inl (.inr z)⟩
  have er2 : ER K M2 (fun b => UZ (fun b => Z b ∨ pend sa v b) σ env b ∨ pend sb v2 b) H2 st' σ env := ⟨so2, r1.er.len, fun k => slr_moreP p2 r1.er.sto.ap np2 (r1.er.env k)⟩
  have r2 : SRl K M2 (fun b => (Z b ∨ pend sa v b) ∨ pend sb v2 b) H2 st' σ env := ⟨er2.less (fun b z => (eq2 b).mp z) fun b z => .inr z, r.ds, fun b z hz => hz.elim (r1.nz b z) fun hz => by
    obtain ⟨o, e⟩ := r1.er.sto.tr b (.inr z)
    rw [np2 b hz] at e; cases e⟩
  have hv2' : SltR K M2 (UZ (fun b => (Z b ∨ pend sa v b) ∨ pend sb v2 b) σ env) H2 sb (some v2) := sltr_less hv2 (fun b z => (eq2 b).mp z) fun a x hx e => by
    cases e
    refine (eq2 a).mpr (.inr ?_)
    rcases slotP_kind hb with ⟨y, hy⟩ | ⟨y, hy⟩
    · subst hy; rcases hx with hx | hx <;> cases hx
    · exact ⟨⟨y, hy⟩, rfl⟩
  -- the second goes to its name
  obtain ⟨r3, w3, l3⟩ := r2.put (slotP_kind hb) hj hv2' (fun b z hz => by
    have hb' := np2 b z
    rcases hz with hz | hz
    · obtain ⟨o, e⟩ := r1.er.sto.tr b (.inl (.inl hz))
      rw [hb'] at e; cases e
    · obtain ⟨o, e⟩ := r1.er.sto.tr b (.inl (.inr hz))
      rw [hb'] at e; cases e)
  have hv3 : SltR K M2 (UZ (fun b => Z b ∨ pend sa v b) (σ.set j (some v2)) (env.set j sb)) H2 sa (some v) := by
    have h0 := slr_moreP (P := pend sb v2) p2 r1.er.sto.ap np2 hv1
    refine sltr_less h0 (fun b z => ?_) fun a x hx e => ?_
    · rcases z with z | ⟨k, y, h1, h2⟩
      · exact .inl (.inl z)
      · rw [look_set env j k _ hj] at h1
        rw [join_set σ j k _ (by rw [← r.er.len]; exact hj)] at h2
        by_cases c : k = j
        · rw [if_pos c] at h1 h2
          refine .inr ?_
          cases h2
          rcases slotP_kind hb with ⟨y', hy⟩ | ⟨y', hy⟩
          · subst hy; rcases h1 with h1 | h1 <;> cases h1
          · exact ⟨⟨y', hy⟩, rfl⟩
        · rw [if_neg c] at h1 h2; exact .inl (.inr ⟨k, y, h1, h2⟩)
    · cases e
      refine .inl (.inr ?_)
      rcases slotP_kind ha with ⟨y, hy⟩ | ⟨y, hy⟩
      · subst hy; rcases hx with hx | hx <;> cases hx
      · exact ⟨⟨y, hy⟩, rfl⟩
  obtain ⟨r4, w4, l4⟩ := r3.put (i := i) (slotP_kind ha) (by rw [List.length_set]; exact hi) hv3 (fun b z hz => by
    obtain ⟨o, e⟩ := r.er.sto.tr b (.inl hz)
    rw [np b z] at e; cases e)
  have eσ : (σ.set i (some v)).set j (some v2) = (σ.set j (some v2)).set i (some v) := List.set_comm _ _ hij
  have eE : (env.set i sa).set j sb = (env.set j sb).set i sa := List.set_comm _ _ hij
  rw [eσ]
  rw [eE] at q
  have st1 : Stp M H M2 H2 := p.trans p2
  refine q M2 H2 _ (SSt.ofStp st1 so2 fun b z => ?_) (l3.trans l4) r4
  rcases w4 b z with z | z
  · rcases w3 b z with z | z
    · exact .inl z
    · refine .inr (p.none_of (fun hm => ?_) (np2 b z))
      obtain ⟨o, e⟩ := r1.er.sto.tracked b (.inl (p.mem hm))
      rw [np2 b z] at e; cases e
  · exact .inr (np b z)
theorem sem_par {f g : Ev → Sto → Option (Vl × Sto)} {i j : Nat} {oi oj : Bool} (h : SemS K (fun env st => match f env st with
    | some (w, s) => (match g env s with
      | some (u, s2) => (match slotP oi w, slotP oj u with
        | some a, some b => if i ≠ j ∧ i < env.length ∧ j < env.length then some (.nx, (env.set i a).set j b, s2) else none
        | _, _ => none)
      | none => none)
    | none => none) D σ H) : SemE K f σ H fun v H1 => SemE K g σ H1 fun w H2 => D.nx ((σ.set i (some v)).set j (some w)) H2 := by
  obtain ⟨M, Z, st, env, fl, env', st', r, e, q⟩ := h
  have hz : ∃ w s u s2 a b, f env st = some (w, s) ∧ g env s = some (u, s2) ∧ slotP oi w = some a ∧ slotP oj u = some b ∧ i ≠ j ∧ i < env.length ∧ j < env.length ∧ some (Fl.nx, (env.set i a).set j b, s2) = some (fl, env', st') := by
    simp only [] at e
    split at e
    · split at e
      · split at e
        · split at e
          · rename_i h5
            exact ⟨_, _, _, _, _, _, ‹_›, ‹_›, ‹_›, ‹_›, h5.1, h5.2.1, h5.2.2, e⟩
          · cases e
        · cases e
      · cases e
    · cases e
  obtain ⟨w, s, u, s2, sa, sb, hf, hg, ha, hb, hij, hi, hj, e⟩ := hz
  cases e
  exact ⟨M, _, st, env, w, s, r.er, hf, sem_par_at r hg ha hb hij hi hj q⟩
end
end Pi

end
section
set_option Elab.async false
set_option linter.all false
set_option maxRecDepth 100000
set_option maxHeartbeats 1000000
namespace Pi
open PySem PySem.Spec PyProof.Rows L2
section
variable {K : PySem.W.Frag} {M M' M1 M2 : List Addr} {U U' Z W W1 : Addr → Prop} {H H' H1 H2 : Hp} {st st' st1 : Sto} {σ σ' σ1 : L2.St} {env env' env1 : Ev} {D : Ends}
theorem setNth_ok {xs ys : List PyData} {k y : PyData} (h : setNth xs k y = some ys) : ∃ i j, k = .int i ∧ ixN xs.length i = some j ∧ ys = xs.set j y := by
  cases k with
  | int i =>
    obtain ⟨j, h1, h2⟩ := Option.map_eq_some_iff.mp (show (L2.ixN xs.length i).map (fun j => xs.set j y) = some ys from h)
    exact ⟨i, j, rfl, h1, h2.symm⟩
  | none => cases h
  | bool b => cases h
  | str b => cases h
  | list b => cases h
  | tuple b => cases h
  | dict b => cases h
theorem SRl.box {n : Nat} {xs ys : List PyData} {a : Addr} {us : List V} (r : SRl K M Z H st σ env) (ha : M[n]? = some a) (hx : RpAll K (Bar M (UZ Z σ env)) H us ys) :
    SRl K M Z (L2.upd H a (.lst us)) (st.set n ys) σ env ∧ SSt (OwW σ env) M H (OwW σ env) M (L2.upd H a (.lst us)) := by
  have hm : a ∈ M := List.mem_of_getElem? ha
  have hn : n < M.length := (List.getElem?_eq_some_iff.mp ha).1
  have kp : Keep (Bar M (UZ Z σ env)) (Bar M (UZ Z σ env)) H (L2.upd H a (.lst us)) := fun b o nb e => ⟨by rw [upd_ne fun q => nb (.inl (by rw [q]; exact hm))]; exact e, nb⟩
  have so := r.er.sto
  have ne : ∀ b, UZ Z σ env b → b ≠ a := fun b u q => so.ap a hm (q ▸ u)
  refine ⟨⟨⟨⟨by rw [List.length_set]; exact so.len, so.nd, so.ap, fun m zs e => ?_, fun b u => ?_⟩, r.er.len, fun i => ?_⟩, r.ds, r.nz⟩, List.prefix_refl _, fun _ h => .inl h, fun b o nb _ e => ?_, fun _ z => .inl z, fun b ⟨o, e⟩ => ?_⟩
  · rw [List.getElem?_set] at e
    by_cases c : n = m
    · subst c
      rw [if_pos rfl] at e
      split at e
      · cases e; exact ⟨a, us, ha, upd_same, hx.keep kp⟩
      · cases e
    · rw [if_neg c] at e
      obtain ⟨b, vs, h1, h2, h3⟩ := so.box m zs e
      refine ⟨b, vs, h1, ?_, h3.keep kp⟩
      rw [upd_ne fun q => ?_]
      · exact h2
      · subst q
        exact c ((List.getElem?_inj hn so.nd).mp (ha.trans h1.symm))
  · obtain ⟨o, e, nt⟩ := so.trN b u
    exact ⟨o, by rw [upd_ne (ne b u)]; exact e, nt⟩
  · have q := r.er.env i
    have ow : ∀ {b z}, UZ Z σ env b → OwAt K (Bar M (UZ Z σ env)) H H b z → OwAt K (Bar M (UZ Z σ env)) (L2.upd H a (.lst us)) (L2.upd H a (.lst us)) b z := fun {b z} u w => w.keep kp fun o e => by rw [upd_ne (ne b u)]; exact e
    cases h2 : look env i with
    | no => trivial
    | sh z => rw [h2] at q; obtain ⟨v, e, rr⟩ := q; exact ⟨v, e, rr.keep kp⟩
    | kt z => rw [h2] at q; exact q.keep kp
    | ow z => rw [h2] at q; obtain ⟨b, e, u', w⟩ := q; exact ⟨b, e, u', ow u' w⟩
    | lk z => rw [h2] at q; obtain ⟨b, e, u', w⟩ := q; exact ⟨b, e, u', ow u' w⟩
    | rf n => rw [h2] at q; exact q
  · rw [upd_ne fun q => nb (by rw [q]; exact hm)]; exact e
  · by_cases c : b = a
    · subst c; exact ⟨_, upd_same⟩
    · exact ⟨o, by rw [upd_ne c]; exact e⟩
def rSetLD : V → V → V → Hp → (Hp → Prop) → Prop := fun o i v H Q => rSetL o i v H Q ∨ ∃ a H', o = .ref a ∧ DPut H a i v H' ∧ Q H'
theorem set_ld {X : Cx} (hu : X.A.units + 1 < cLine) : PSet X rSetLD := fun pins s σ H o i v ov iv u Q I ro ri rv h => by
  rcases h with h | ⟨a, H', rfl, g, q⟩
  · exact set_list pins s σ H o i v ov iv u Q I ro ri rv h
  · obtain rfl : ov = Value.ref a := ro
    exact d_setItem hu I g ri rv fun s' I' => ⟨H', I', q⟩
theorem sem_stix {f : Ev → Sto → Option (PyData × Sto)} {g : Ev → Sto → Option (PyData × Sto)} {i : Nat} (h : SemS K (fun env st => match f env st with
    | some (y, s) => (match g env s with
      | some (kx, s1) => (match look env i with
        | .ow (.list xs) => (setNth xs kx y).bind fun ys => some (.nx, env.set i (.ow (.list ys)), s1)
        | .ow (.dict ds) => if (keyD kx && decide (ds.length < SL)) = true then (dents kx ds).map fun es => (.nx, env.set i (.ow (.dict (dput kx y es))), s1) else none
        | .rf n => (s1[n]?).bind fun xs => (setNth xs kx y).bind fun ys => some (.nx, env, s1.set n ys)
        | _ => none)
      | none => none)
    | none => none) D σ H) : tAsg (SemD K f) (gSub (tVar i) (SemB K g) rSetLD) D σ H := by
  obtain ⟨M, Z, st, env, fl, env', st', r, e, q⟩ := h
  have hz : ∃ y s kx s1, f env st = some (y, s) ∧ g env s = some (kx, s1) ∧ ((∃ xs ys, look env i = .ow (.list xs) ∧ setNth xs kx y = some ys ∧ fl = .nx ∧ env' = env.set i (.ow (.list ys)) ∧ st' = s1) ∨
      (∃ ds es, look env i = .ow (.dict ds) ∧ keyD kx = true ∧ ds.length < SL ∧ dents kx ds = some es ∧ fl = .nx ∧ env' = env.set i (.ow (.dict (dput kx y es))) ∧ st' = s1) ∨
      ∃ n xs ys, look env i = .rf n ∧ s1[n]? = some xs ∧ setNth xs kx y = some ys ∧ fl = .nx ∧ env' = env ∧ st' = s1.set n ys) := by
    simp only [] at e
    split at e
    · split at e
      · split at e
        · obtain ⟨ys, h1, e⟩ := Option.bind_eq_some_iff.mp e
          cases e
          exact ⟨_, _, _, _, ‹_›, ‹_›, .inl ⟨_, _, ‹_›, h1, rfl, rfl, rfl⟩⟩
        · split at e
          · rename_i hk
            rw [Bool.and_eq_true, decide_eq_true_eq] at hk
            obtain ⟨es, h1, e⟩ := Option.map_eq_some_iff.mp e
            cases e
            exact ⟨_, _, _, _, ‹_›, ‹_›, .inr (.inl ⟨_, es, ‹_›, hk.1, hk.2, h1, rfl, rfl, rfl⟩)⟩
          · cases e
        · obtain ⟨xs, h0, e⟩ := Option.bind_eq_some_iff.mp e
          obtain ⟨ys, h1, e⟩ := Option.bind_eq_some_iff.mp e
          cases e
          exact ⟨_, _, _, _, ‹_›, ‹_›, .inr (.inr ⟨_, _, _, ‹_›, h0, h1, rfl, rfl, rfl⟩)⟩
        · cases e
      · cases e
    · cases e
  obtain ⟨y, s0, kx, s1, hf, hg, hz⟩ := hz
  refine ⟨M, _, st, env, y, s0, r.er, hf, fun v H1 M1 s so rv => ?_⟩
  have sl := r.er.env i
  rcases hz with ⟨xs, ys, hl, hs, rfl, rfl, rfl⟩ | ⟨ds, es, hl, hk, hlen, hd, rfl, rfl, rfl⟩ | ⟨n, xs, ys, hl, hb, hs, rfl, rfl, rfl⟩
  · rw [hl] at sl
    obtain ⟨a, ha, u, vs, hv, ra⟩ := sl
    obtain ⟨kk, j, rfl, hj, rfl⟩ := setNth_ok hs
    refine ⟨_, join_some ha, M1, _, s0, env, _, _, r.er.step s so, hg, fun kv H2 M2 t so2 rk => ?_⟩
    cases rk.w.int
    have nM : a ∉ M := fun z => r.er.sto.ap a z u
    have st2 := s.trans t
    have hv2 : H2 a = some (.lst vs) := st2.fr a _ nM hv
    have ra2 := ra.step st2
    refine .inl ⟨a, vs, kk, j, rfl, rfl, hv2, by rw [ra.length]; exact hj, ?_⟩
    obtain ⟨r2, s2, l2⟩ := (r.step st2 so2).upd (o := .lst (vs.set j v)) (y := .list (xs.set j y)) hl ha ⟨_, upd_same, (RpAll.set (rv.step t) j ra2).keep (keepU u)⟩
    exact q _ _ _ ((SSt.ofStp st2 so2 fun _ z => .inl z).trans s2) l2 r2
  · rw [hl] at sl
    obtain ⟨a, ha, u, hv⟩ := sl
    rcases hv with ⟨kvs, hv, ra⟩ | ⟨kvs, es', rfl, hv, ra⟩
    · obtain ⟨rfl, _⟩ := dents_k ra hd
      obtain ⟨k', rfl⟩ := of_keyD hk
      refine ⟨_, join_some ha, M1, _, s0, env, _, _, r.er.step s so, hg, fun kv H2 M2 t so2 rk => ?_⟩
      have ek : kv = kV k' := by
        rcases k' with i' | z
        · exact rk.w.int
        · exact rk.w.str
      subst ek
      have nM : a ∉ M := fun z => r.er.sto.ap a z u
      have st2 := s.trans t
      have hv2 : H2 a = some (.dK kvs) := st2.fr a _ nM hv
      have ra2 := ra.keep st2.keep
      refine .inr ⟨a, _, rfl, DPut.k hv2 (Nat.lt_of_lt_of_le (by rw [ra.len]; exact hlen) (by decide)), ?_⟩
      obtain ⟨r2, s2, l2⟩ := (r.step st2 so2).upd (o := .dK (putK kvs k' v)) (y := .dict (dput (kD k') y es)) hl ha (.inl ⟨_, upd_same, (put_k k' ra2 (rv.step t)).keep (keepU u)⟩)
      exact q _ _ _ ((SSt.ofStp st2 so2 fun _ z => .inl z).trans s2) l2 r2
    · obtain ⟨_, ht⟩ := dents_t hd
      cases kx <;> first | (cases hk; done) | (cases ht; done)
  · rw [hl] at sl
    obtain ⟨a, ha, hv⟩ := sl
    obtain ⟨kk, j, rfl, hj, rfl⟩ := setNth_ok hs
    refine ⟨_, join_some hv, M1, _, s0, env', _, _, r.er.step s so, hg, fun kv H2 M2 t so2 rk => ?_⟩
    cases rk.w.int
    have st2 := s.trans t
    have ha2 : M2[n]? = some a := by
      obtain ⟨w, rfl⟩ := st2.pre
      rw [List.getElem?_append_left (List.getElem?_eq_some_iff.mp ha).1]
      exact ha
    obtain ⟨b, vs, h1, h2, h3⟩ := so2.box n xs hb
    rw [ha2] at h1; cases h1
    refine .inl ⟨a, vs, kk, j, rfl, rfl, h2, by rw [h3.length]; exact hj, ?_⟩
    obtain ⟨r2, s2⟩ := (r.step st2 so2).box (xs := xs) (ys := xs.set j y) ha2 (RpAll.set (rv.step t) j h3)
    exact q _ _ _ ((SSt.ofStp st2 so2 fun _ z => .inl z).trans s2) Lks.refl r2
section
variable {X : Cx}
end
theorem sem_ex {f : Ev → Sto → Option (Vl × Sto)} (h : SemS K (fun env st => match f env st with | some (_, s) => some (.nx, env, s) | none => none) D σ H) : tDrop (SemE K f) D σ H := by
  obtain ⟨M, Z, st, env, fl, env', st', r, e, q⟩ := h
  cases hf : f env st with
  | none => simp only [hf] at e; cases e
  | some p =>
    obtain ⟨w, s1⟩ := p
    simp only [hf] at e
    cases e
    refine ⟨M, _, st, env, w, _, r.er, hf, ?_⟩
    cases w with
    | d x => exact fun v H1 M1 s so rv => q M1 H1 σ (SSt.ofStp s so fun _ z => .inl z) Lks.refl (r.step s so)
    | fr x =>
      intro a H1 M1 s na so ow
      have so1 := so.less (U' := UZ Z σ env) fun c z => .inl z
      exact q M1 H1 σ (SSt.ofStp s so1 fun _ z => .inl z) Lks.refl (r.step s so1)
    | rf n => exact fun a H1 M1 s so e => q M1 H1 σ (SSt.ofStp s so fun _ z => .inl z) Lks.refl (r.step s so)
theorem ret_post (r : SRl K M Z H st σ env) {w : Vl} {Q : VK} (q : RPost K M Z H (OwW σ env) st' w Q) : EPost K M (UZ Z σ env) H st' w Q := by
  cases w with
  | d x => exact fun v H1 M1 s so rv => q v H1 M1 (SSt.ofStp s so fun _ z => z.elim) (so.less fun _ z => .inl z) (rp_less (fun _ z => .inl z) rv)
  | fr x => exact fun a H1 M1 s na so ow => q a H1 M1 (SSt.ofStp s so fun _ z => z.elim) (.inr na) (so.less fun _ z => z.elim (fun z => .inl (.inl z)) .inr) (ow_less (fun _ z => z.elim (fun z => .inl (.inl z)) .inr) ow)
  | rf n => exact fun a H1 M1 s so e => q a H1 M1 (SSt.ofStp s so fun _ z => z.elim) (so.less fun _ z => .inl z) e
theorem sem_ret {f : Ev → Sto → Option (Vl × Sto)} (h : SemS K (fun env st => match f env st with | some (w, s) => some (.rt w, env, s) | none => none) D σ H) : tRet (SemE K f) D σ H := by
  obtain ⟨M, Z, st, env, fl, env', st', r, e, q⟩ := h
  cases hf : f env st with
  | none => simp only [hf] at e; cases e
  | some p =>
    obtain ⟨w, s1⟩ := p
    simp only [hf] at e
    cases e
    exact ⟨M, _, st, env, w, _, r.er, hf, ret_post r q⟩
theorem sem_ret0 (h : SemS K (fun env st => some (.rt (.d .none), env, st)) D σ H) : tRetN D σ H := by
  obtain ⟨M, Z, st, env, fl, env', st', r, e, q⟩ := h
  cases e
  exact q _ H M (SSt.refl fun _ z => z.elim) (r.er.sto.less fun _ z => .inl z) .non
theorem sem_reto {i : Nat} (h : SemS K (fun env st => match look env i with | .ow x => some (.rt (.fr x), env, st) | _ => none) D σ H) : tRet (tVar i) D σ H := by
  obtain ⟨M, Z, st, env, fl, env', st', r, e, q⟩ := h
  cases hl : look env i with
  | ow x =>
    simp only [hl] at e
    cases e
    have sl := r.er.env i
    rw [hl] at sl
    obtain ⟨a, ha, u, ow⟩ := sl
    have le : ∀ b, (Z b ∨ b = a) → UZ Z σ env b := fun b z => z.elim .inl fun z => .inr (by rw [z]; exact ⟨i, x, .inl hl, ha⟩)
    exact ⟨_, join_some ha, q a H M (SSt.refl fun _ z => z.elim) (.inl ⟨i, x, hl, ha⟩) (r.er.sto.less le) (ow_less le ow)⟩
  | no => simp only [hl] at e; cases e
  | sh x => simp only [hl] at e; cases e
  | lk x => simp only [hl] at e; cases e
  | rf n => simp only [hl] at e; cases e
  | kt n => simp only [hl] at e; cases e
theorem sem_rbox {g : Ev → Sto → Option (List PyData × Sto)} (h : SemS K (fun env st => match g env st with | some (xs, s) => if xs.length ≤ SL then some (.rt (.rf s.length), env, s ++ [xs]) else none | none => none) D σ H) :
    tRet (SemE K fun env st => bnd (g env st) fun xs s => if xs.length ≤ SL then some (.fr (.list xs), s) else none) D σ H := by
  obtain ⟨M, Z, st, env, fl, env', st', r, e, q⟩ := h
  cases hf : g env st with
  | none => simp only [hf] at e; cases e
  | some p =>
    obtain ⟨xs, s1⟩ := p
    simp only [hf] at e
    split at e
    · rename_i hz
      cases e
      refine ⟨M, _, st, env, .fr (.list xs), s1, r.er, by show bnd (g env st) _ = _; rw [hf, bnd_some, if_pos hz], fun a H1 M1 s na so ow => ?_⟩
      have nM : a ∉ M1 := fun m => so.ap a m (.inr rfl)
      have tr := so.tracked
      have le : ∀ b, Bar (M1 ++ [a]) Z b → Bar M1 (fun b => UZ Z σ env b ∨ b = a) b := fun b z => by
        rcases z with z | z
        · rcases List.mem_append.mp z with z | z
          · exact .inl z
          · exact .inr (.inr (List.mem_singleton.mp z))
        · exact .inr (.inl (.inl z))
      have kp : Keep (Bar M1 fun b => UZ Z σ env b ∨ b = a) (Bar (M1 ++ [a]) Z) H1 H1 := fun b o nb e => ⟨e, fun z => nb (le b z)⟩
      obtain ⟨vs, hv, ra⟩ := ow
      have sst : SSt (OwW σ env) M H Non M1 H1 := SSt.ofStp s so fun _ z => z.elim
      refine q a H1 (M1 ++ [a]) ⟨sst.pre.trans (List.prefix_append _ _), fun b hb => ?_, sst.fr, sst.w, sst.th⟩ ⟨?_, ?_, fun b hb hz => ?_, fun n zs e => ?_, fun b hz => so.trN b (.inl (.inl hz))⟩ ?_
      · rcases List.mem_append.mp hb with z | z
        · exact s.new b z
        · rw [List.mem_singleton.mp z]; exact .inr na
      · rw [List.length_append, List.length_append, so.len]; rfl
      · rw [List.nodup_append]
        refine ⟨so.nd, by simp, fun b hb c hc => ?_⟩
        rw [List.mem_singleton.mp hc]
        exact fun z => nM (z ▸ hb)
      · rcases List.mem_append.mp hb with z | z
        · exact so.ap b z (.inl (.inl hz))
        · rw [List.mem_singleton.mp z] at hz
          obtain ⟨o, e⟩ := r.er.sto.tr a (.inl hz)
          rw [na] at e; cases e
      · by_cases c : n < s1.length
        · rw [List.getElem?_append_left c] at e
          obtain ⟨b, us, h1, h2, h3⟩ := so.box n zs e
          exact ⟨b, us, by rw [List.getElem?_append_left (List.getElem?_eq_some_iff.mp h1).1]; exact h1, h2, h3.keep kp⟩
        · have hn : n = s1.length := by
            have := (List.getElem?_eq_some_iff.mp e).1
            rw [List.length_append, List.length_singleton] at this
            omega
          subst hn
          rw [List.getElem?_append_right (Nat.le_refl _), Nat.sub_self] at e
          cases e
          exact ⟨a, vs, by rw [← so.len, List.getElem?_append_right (Nat.le_refl _), Nat.sub_self]; rfl, hv, ra.keep kp⟩
      · rw [← so.len, List.getElem?_append_right (Nat.le_refl _), Nat.sub_self]; rfl
    · cases e
theorem SSt.keep (r : SRl K M Z H st σ env) (s : SSt (OwW σ env) M H (OwW σ' env') M' H') (l : Lks σ env σ' env') : Keep (Bar M (UZ Z σ env)) (Bar M' (UZ Z σ' env')) H H' := fun b o nb e => by
  have nm : b ∉ M := fun z => nb (.inl z)
  have nz : ¬ Z b := fun z => nb (.inr (.inl z))
  have nv : ¬ OwV σ env b := fun z => nb (.inr (.inr z))
  refine ⟨s.fr b o nm (fun z => nv z.v) e, fun z => ?_⟩
  rcases z with z | z | z
  · exact (s.new b z).elim nm fun q => by rw [q] at e; cases e
  · exact nz z
  · obtain ⟨i, x, hx | hx, q⟩ := z
    · exact (s.w b ⟨i, x, hx, q⟩).elim (fun z => nv z.v) fun q => by rw [q] at e; cases e
    · obtain ⟨h1, h2⟩ := l i x hx
      exact nv ⟨i, x, .inr h1, by rw [← h2]; exact q⟩
end
end Pi

end
section
set_option Elab.async false
set_option linter.all false
set_option maxRecDepth 100000
set_option maxHeartbeats 1000000
namespace Pi
open PySem PySem.Spec PyProof.Rows L2
section
variable {K : PySem.W.Frag} {M M' M1 M2 : List Addr} {U U' Z W W1 : Addr → Prop} {H H' H1 H2 : Hp} {st st' st1 : Sto} {σ σ' σ1 : L2.St} {env env' env1 : Ev} {D : Ends}
theorem SRl.relab (r : SRl K M Z H st σ env) (hlen : env1.length = env.length) (h : ∀ i, look env1 i = look env i ∨ ∃ x, (look env i = .ow x ∨ look env i = .lk x) ∧ (look env1 i = .ow x ∨ look env1 i = .lk x)) : SRl K M Z H st σ env1 := by
  have io : ∀ i, IsOw (look env1 i) → IsOw (look env i) := fun i ⟨y, hy⟩ => by
    rcases h i with z | ⟨x, z, _⟩
    · rw [← z]; exact ⟨y, hy⟩
    · exact ⟨x, z⟩
  have vv : ∀ a, OwV σ env1 a → OwV σ env a := fun a ⟨i, y, hy, e⟩ => by
    obtain ⟨z, hz⟩ := io i ⟨y, hy⟩
    exact ⟨i, z, hz, e⟩
  have vb : ∀ a, OwV σ env a → OwV σ env1 a := fun a ⟨i, y, hy, e⟩ => by
    rcases h i with z | ⟨x, _, z⟩
    · exact ⟨i, y, by rw [z]; exact hy, e⟩
    · exact ⟨i, x, z, e⟩
  have er1 : ER K M (UZ Z σ env) H st σ env1 := by
    refine ⟨r.er.sto, hlen.trans r.er.len, fun i => ?_⟩
    have q := r.er.env i
    rcases h i with z | ⟨x, z1, z2⟩
    · rw [z]; exact q
    · have q : ∃ a, (σ[i]?).join = some (.ref a) ∧ UZ Z σ env a ∧ OwAt K (Bar M (UZ Z σ env)) H H a x := by
        rcases z1 with z1 | z1 <;> (rw [z1] at q; exact q)
      rcases z2 with z2 | z2 <;> (rw [z2]; exact q)
  exact ⟨er1.less (fun a z => z.elim .inl fun z => .inr (vv a z)) (fun a z => Or.inr z), fun i j a hi hj => r.ds i j a (io i hi) (io j hj), fun a z => r.nz a (vv a z)⟩
theorem lock_look {i : Nat} {x : PyData} (hl : look env i = .ow x) : lock (some i) env = env.set i (.lk x) := by
  show (match look env i with | .ow x => env.set i (.lk x) | _ => env) = _
  rw [hl]
theorem unl_nx {o : Option Nat} {e1 env' : Ev} {s1 st' : Sto} {fl : Fl} (ho : ∀ i, o = some i → ∃ x, look env i = .ow x) (e : unlock o (some (.nx, e1, s1)) = some (fl, env', st'))
    (s : SSt (OwW σ (lock o env)) M H (OwW σ1 e1) M1 H1) (l : Lks σ (lock o env) σ1 e1) (r1 : SRl K M1 Z H1 s1 σ1 e1) :
    fl = .nx ∧ st' = s1 ∧ SSt (OwW σ env) M H (OwW σ1 env') M1 H1 ∧ Lks σ env σ1 env' ∧ SRl K M1 Z H1 s1 σ1 env' := by
  cases o with
  | none => cases e; exact ⟨rfl, rfl, s, l, r1⟩
  | some i =>
    obtain ⟨x, hl⟩ := ho i rfl
    rw [lock_look hl] at s l
    have hi : i < env.length := look_lt (by rw [hl]; exact fun z => nomatch z)
    have lk : ∀ j, look (env.set i (.lk x)) j = if j = i then .lk x else look env j := fun j => look_set env i j _ hi
    have e : (match look e1 i with | .lk x => some (Fl.nx, e1.set i (.ow x), s1) | _ => none) = some (fl, env', st') := e
    cases h1 : look e1 i with
    | lk y =>
      rw [h1] at e
      cases e
      have hi1 : i < e1.length := look_lt (by rw [h1]; exact fun z => nomatch z)
      have lk1 : ∀ j, look (e1.set i (.ow y)) j = if j = i then .ow y else look e1 j := fun j => look_set e1 i j _ hi1
      have ew : ∀ a, OwW σ (env.set i (.lk x)) a → OwW σ env a := fun a ⟨j, z, q1, q2⟩ => by
        rw [lk] at q1
        by_cases c : j = i
        · rw [if_pos c] at q1; cases q1
        · rw [if_neg c] at q1; exact ⟨j, z, q1, q2⟩
      refine ⟨rfl, rfl, ⟨s.pre, s.new, fun a u n w => s.fr a u n fun z => w (ew a z), fun a ⟨j, z, q1, q2⟩ => ?_, s.th⟩, fun j z q => ?_, r1.relab (by rw [List.length_set]) fun j => ?_⟩
      · rw [lk1] at q1
        by_cases c : j = i
        · subst c
          exact .inl ⟨j, x, hl, by rw [← (l j y h1).2]; exact q2⟩
        · rw [if_neg c] at q1
          exact (s.w a ⟨j, z, q1, q2⟩).elim (fun z => .inl (ew a z)) .inr
      · rw [lk1] at q
        by_cases c : j = i
        · rw [if_pos c] at q; cases q
        · rw [if_neg c] at q
          obtain ⟨q1, q2⟩ := l j z q
          rw [lk, if_neg c] at q1
          exact ⟨q1, q2⟩
      · rw [lk1]
        by_cases c : j = i
        · rw [if_pos c, c]; exact .inr ⟨y, .inr h1, .inl rfl⟩
        · rw [if_neg c]; exact .inl rfl
    | no => rw [h1] at e; cases e
    | sh x => rw [h1] at e; cases e
    | ow x => rw [h1] at e; cases e
    | rf n => rw [h1] at e; cases e
    | kt n => rw [h1] at e; cases e
theorem hide_at (env : Ev) (i : Nat) : look (hideW env) i = match look env i with | .ow _ => .no | s => s := by
  unfold look hideW
  rw [List.getD_eq_getElem?_getD, List.getD_eq_getElem?_getD, List.getElem?_map]
  cases h : env[i]? with
  | none => rfl
  | some s => cases s <;> rfl
theorem ER.hide (er : ER K M U H st σ env) : ER K M U H st σ (hideW env) := ⟨er.sto, by unfold hideW; rw [List.length_map]; exact er.len, fun i => by
  have q := er.env i
  rw [hide_at]
  cases h : look env i with
  | no => trivial
  | sh x => rw [h] at q; exact q
  | kt x => rw [h] at q; exact q
  | ow x => trivial
  | lk x => rw [h] at q; exact q
  | rf n => rw [h] at q; exact q⟩
theorem forL_cons {bd : PyData → Ev → Option Ev} {b : Ev → Sto → SR} {x : PyData} {xs : List PyData} {p : Fl × Ev × Sto} (e : forL bd b (x :: xs) env st = some p) :
    ∃ e1 f e2 s2, bd x env = some e1 ∧ b e1 st = some (f, e2, s2) ∧ ((f = .nx ∨ f = .ct) ∧ forL bd b xs e2 s2 = some p ∨ f = .bk ∧ p = (.nx, e2, s2) ∨ ∃ w, f = .rt w ∧ p = (.rt w, e2, s2)) := by
  unfold forL at e
  cases hb : bd x env with
  | none => rw [hb] at e; cases e
  | some e1 =>
    simp only [hb] at e
    cases hc : b e1 st with
    | none => simp only [hc] at e; cases e
    | some r =>
      obtain ⟨f, e2, s2⟩ := r
      simp only [hc] at e
      refine ⟨e1, f, e2, s2, rfl, hc, ?_⟩
      cases f with
      | nx => exact .inl ⟨.inl rfl, e⟩
      | ct => exact .inl ⟨.inr rfl, e⟩
      | bk => cases e; exact .inr (.inl ⟨rfl, rfl⟩)
      | rt w => cases e; exact .inr (.inr ⟨w, rfl, rfl⟩)
theorem SSt.unlk {d : Addr} {u : HO} {o : Obj} (nb : ¬ Bar M U d) (hW : ∀ a, W a → U a) (hd : H1 d = some u) (s : SSt W M (L2.upd H1 d (.frz o u)) W' M' H') :
    H' d = some (.frz o u) ∧ SSt W M H1 W' M' (L2.upd H' d u) ∧ d ∉ M' ∧ ¬ W' d := by
  have old : ∀ a, L2.upd H1 d (.frz o u) a = none → H1 a = none := fun a z => by
    by_cases e : a = d
    · subst e; rw [upd_same] at z; cases z
    · rw [upd_ne e] at z; exact z
  have nd : ¬ L2.upd H1 d (.frz o u) d = none := fun z => by rw [upd_same] at z; cases z
  refine ⟨s.fr d _ (fun z => nb (.inl z)) (fun z => nb (.inr (hW d z))) upd_same, ⟨s.pre, fun a m => (s.new a m).imp id (old a), fun a x n nw e => ?_, fun a z => (s.w a z).imp id (old a), fun a ⟨x, e⟩ => ?_⟩, fun z => (s.new d z).elim (fun z => nb (.inl z)) nd, fun z => (s.w d z).elim (fun z => nb (.inr (hW d z))) nd⟩
  · by_cases c : a = d
    · subst c; rw [hd] at e; cases e; exact upd_same
    · rw [upd_ne c]
      exact s.fr a x n nw (by rw [upd_ne c]; exact e)
  · by_cases c : a = d
    · subst c; exact ⟨_, upd_same⟩
    · rw [upd_ne c]
      exact s.th a ⟨x, by rw [upd_ne c]; exact e⟩
theorem RPost.unlk {X : Cx} {d : Addr} {u : HO} {o : Obj} (nb : ¬ Bar M U d) (hW : ∀ a, W a → U a) (hZ : ∀ a, Z a → U a) (du : Pk.DictO u) (hd : H1 d = some u) (hn : ∀ p q, X.H_0 d ≠ some (.frz p q)) {w : Vl} {Q : VK} (q : RPost K M Z H1 W st' w Q) :
    RPost K M Z (L2.upd H1 d (.frz o u)) W st' w (fun v H' => Q v H' ∨ Pk.UnL X H' (Q v)) := by
  have old : ∀ a, L2.upd H1 d (.frz o u) a = none → H1 a = none := fun a z => by
    by_cases e : a = d
    · subst e; rw [upd_same] at z; cases z
    · rw [upd_ne e] at z; exact z
  cases w with
  | d x =>
    intro v H' M' s so r
    obtain ⟨h1, h2, h3, h4⟩ := s.unlk nb hW hd
    have l := LkD.back du h1
    exact .inr ⟨d, o, u, h1, hn, q v _ M' h2 (so.lk l fun z => z.elim h3 fun z => nb (.inr (hZ d z))) (r.lk l)⟩
  | fr x =>
    intro a H' M' s ha so r
    obtain ⟨h1, h2, h3, h4⟩ := s.unlk nb hW hd
    have l := LkD.back du h1
    have ne : a ≠ d := fun z => by
      subst z
      cases x with
      | list xs => obtain ⟨vs, e, _⟩ := r; rw [h1] at e; cases e
      | dict ds =>
        rcases r with ⟨vs, e, _⟩ | ⟨vs, es, _, e, _⟩
        · rw [h1] at e; cases e
        · rw [h1] at e; cases e
      | none => exact r.elim
      | bool b => exact r.elim
      | int b => exact r.elim
      | str b => exact r.elim
      | tuple b => exact r.elim
    exact .inr ⟨d, o, u, h1, hn, q a _ M' h2 (ha.imp id (old a)) (so.lk l fun z => z.elim h3 fun z => z.elim (fun z => nb (.inr (hZ d z))) fun z => ne z.symm) (r.lk l ne)⟩
  | rf n =>
    intro a H' M' s so e
    obtain ⟨h1, h2, h3, h4⟩ := s.unlk nb hW hd
    exact .inr ⟨d, o, u, h1, hn, q a _ M' h2 (so.lk (LkD.back du h1) fun z => z.elim h3 fun z => nb (.inr (hZ d z))) e⟩
theorem RPost.mono {w : Vl} {Q Q' : VK} (f : ∀ v H', Q v H' → Q' v H') (q : RPost K M Z H1 W st' w Q) : RPost K M Z H1 W st' w Q' := by
  cases w with
  | d x => exact fun v H' M' s so r => f _ _ (q v H' M' s so r)
  | fr x => exact fun a H' M' s ha so r => f _ _ (q a H' M' s ha so r)
  | rf n => exact fun a H' M' s so e => f _ _ (q a H' M' s so e)
theorem sem_for_go {K : PySem.W.Frag} {D : Ends} {σ : L2.St} {H1 : Hp} {M1 : List Addr} {Z : Addr → Prop} {t : Tg} {b : Ev → Sto → SR} {oo : Option Nat} {bb : Bool} {z : L2.St → Ev → Addr → Prop} {env e1 : Ev} {f1 : Fl} {s1 s9 : Sto} {xs : List PyData} {J : L2.It}
    (hz : (bb = true ∧ z = OwV) ∨ z = fun _ _ _ => False) (rl : SRl K M1 Z H1 s1 σ (lock oo env)) (wd : WD K M1 (UZ Z σ (lock oo env)) (z σ (hideB bb (lock oo env))) H1 J xs) (hr : forL (bindT t) b xs (lock oo env) s1 = some (f1, e1, s9))
    (done : ∀ {σ2 : L2.St} {e2 : Ev} {s2 : Sto} {M2 : List Addr} {H2 : Hp}, SSt (OwW σ (lock oo env)) M1 H1 (OwW σ2 e2) M2 H2 → Lks σ (lock oo env) σ2 e2 → SRl K M2 Z H2 s2 σ2 e2 → (f1, e1, s9) = (.nx, e2, s2) → D.nx σ2 H2)
    (rts : ∀ w, f1 = .rt w → RPost K M1 Z H1 (OwW σ (lock oo env)) s9 w D.rt) : tFor (fun _ G R => R J G) (tgR K t) (SemS K b) D σ H1 := by
  let Wl : Nat → Nat → L2.St → Hp → Prop := fun i m σ2 H2 => m = xs.length - i ∧ i ≤ xs.length ∧ ∃ M2 s2 env2, SSt (OwW σ (lock oo env)) M1 H1 (OwW σ2 env2) M2 H2 ∧ Lks σ (lock oo env) σ2 env2 ∧ SRl K M2 Z H2 s2 σ2 env2 ∧ forL (bindT t) b (xs.drop i) env2 s2 = some (f1, e1, s9)
  refine ⟨Wl, ⟨xs.length, by simp, Nat.zero_le _, M1, s1, lock oo env, SSt.refl fun _ z => z, Lks.refl, rl, hr⟩, ?_⟩
  rintro i m σ2 H2 ⟨rfl, hi, M2, s2, env2, s, l, r2, ef⟩
  have lat : Lat M1 (UZ Z σ (lock oo env)) (z σ (hideB bb (lock oo env))) H1 M2 (UZ Z σ2 env2) H2 := by
    refine ⟨s.new, fun a u => ?_, r2.er.sto.tracked, OwW σ (lock oo env), fun a w => .inr w.v, fun a za w => ?_, s.fr⟩
    · rcases u with u | ⟨j, y, h1, h2⟩
      · exact .inl (.inl u)
      · rcases h1 with h1 | h1
        · exact (s.w a ⟨j, y, h1, h2⟩).elim (fun w => .inl (.inr w.v)) .inr
        · obtain ⟨q1, q2⟩ := l j y h1
          exact .inl (.inr ⟨j, y, .inr q1, by rw [← q2]; exact h2⟩)
    · rcases hz with ⟨hb, hz⟩ | hz
      · subst hb; subst hz
        obtain ⟨j, y, h1, h2⟩ := za
        obtain ⟨k, x, h3, h4⟩ := w
        have hj : look (lock oo env) j = .lk y := by
          rw [show hideB true (lock oo env) = hideW (lock oo env) from rfl, hide_at] at h1
          cases h5 : look (lock oo env) j with
          | no => rw [h5] at h1; rcases h1 with h1 | h1 <;> cases h1
          | sh x => rw [h5] at h1; rcases h1 with h1 | h1 <;> cases h1
          | ow x => rw [h5] at h1; rcases h1 with h1 | h1 <;> cases h1
          | lk x =>
            rw [h5] at h1
            rcases h1 with h1 | h1
            · cases h1
            · exact h1
          | rf n => rw [h5] at h1; rcases h1 with h1 | h1 <;> cases h1
          | kt n => rw [h5] at h1; rcases h1 with h1 | h1 <;> cases h1
        have := rl.ds j k a ⟨y, .inr hj⟩ ⟨x, .inl h3⟩ h2 h4
        subst this
        rw [hj] at h3; cases h3
      · subst hz; exact za
  by_cases hlt : i < xs.length
  · refine .inr ⟨wd.go M2 _ H2 i lat hlt, fun σ' H' => Wl (i + 1) (xs.length - (i + 1)) σ' H', fun σ' H' h => ⟨xs.length - (i + 1), by omega, h⟩, fun x H3 hy => ?_⟩
    obtain ⟨d, ed, gr, rx⟩ := wd.yld M2 _ H2 i x H3 lat hlt hy
    rw [drop_at hlt ed] at ef
    obtain ⟨en, fb, e5, s5, hbd, hbo, ef⟩ := forL_cons ef
    have so3 := r2.er.sto.grow gr
    have r3 := r2.step (Stp.grow gr) so3
    refine bind_ok t r3.er rx hbd fun σ3 er3 hl ag => ?_
    have sub : Sub σ2 env2 σ3 en := fun j ⟨y, hy⟩ => by
      rcases (bind_look t hbd).2 j with ⟨h1, h2⟩ | ⟨z, h1⟩
      · exact ⟨h1, by rw [ag j h2]⟩
      · rw [h1] at hy; rcases hy with hy | hy <;> cases hy
    have r4 : SRl K M2 Z H3 s2 σ3 en := r3.sub sub er3
    have s4 : SSt (OwW σ (lock oo env)) M1 H1 (OwW σ3 en) M2 H3 := (s.trans (SSt.ofStp (W' := OwW σ2 env2) (Stp.grow gr) so3 fun _ z => .inl z)).mono fun a z => sub.w z
    have l4 : Lks σ (lock oo env) σ3 en := l.trans sub.lks
    refine ⟨M2, Z, s2, en, fb, e5, s5, r4, hbo, ?_⟩
    rcases ef with ⟨hf, ef⟩ | ⟨rfl, ef⟩ | ⟨w, rfl, ef⟩
    · have nxt : NPost K M2 Z H3 σ3 en s5 e5 (fun σ' H' => Wl (i + 1) (xs.length - (i + 1)) σ' H') := fun M' H' σ' t l' r' => ⟨rfl, hlt, M', s5, e5, s4.trans t, l4.trans l', r', ef⟩
      rcases hf with rfl | rfl
      · exact nxt
      · exact nxt
    · exact fun M' H' σ' t l' r' => done (s4.trans t) (l4.trans l') r' ef
    · cases ef
      exact (rts w rfl).go s4
  · have hh : i = xs.length := by omega
    subst hh
    refine .inl ⟨wd.stop M2 _ H2 lat, ?_⟩
    rw [List.drop_length] at ef
    exact done s l r2 (by cases ef; rfl)
theorem sem_for {X : Cx} {D : Ends} {σ : L2.St} {H : Hp} {gi : Ev → Sto → Option (List PyData × Sto)} {t : Tg} {b : Ev → Sto → SR} {o : Ev → Option Nat} {bb : Bool} {z : L2.St → Ev → Addr → Prop} (ho : ∀ env i, o env = some i → ∃ x, look env i = .ow x)
    (hz : (bb = true ∧ z = OwV) ∨ z = fun _ _ _ => False)
    (h : SemS X.K (fun env st => match gi (hideB bb (lock (o env) env)) st with | some (xs, s) => unlock (o env) (forL (bindT t) b xs (lock (o env) env) s) | none => none) D σ H) : tFor (SemIL z X gi) (tgR X.K t) (SemS X.K b) (Pk.unD X D) σ H := by
  obtain ⟨M, Z, st, env, fl, env', st', r, e, q⟩ := h
  cases hg : gi (hideB bb (lock (o env) env)) st with
  | none => simp only [hg] at e; cases e
  | some p =>
    obtain ⟨xs, s1⟩ := p
    simp only [hg] at e
    have ho := ho env
    generalize o env = oo at *
    cases hr : forL (bindT t) b xs (lock oo env) s1 with
    | none =>
      rw [hr] at e
      cases oo <;> cases e
    | some rr =>
      obtain ⟨f1, e1, s9⟩ := rr
      rw [hr] at e
      have rl : SRl X.K M Z H st σ (lock oo env) := by
        cases oo with
        | none => exact r
        | some i =>
          obtain ⟨x, hl⟩ := ho i rfl
          rw [lock_look hl]
          have hi : i < env.length := look_lt (by rw [hl]; exact fun z => nomatch z)
          refine r.relab (by rw [List.length_set]) fun j => ?_
          rw [look_set env i j _ hi]
          by_cases c : j = i
          · rw [if_pos c, c]; exact .inr ⟨x, .inl hl, .inr rfl⟩
          · rw [if_neg c]; exact .inl rfl
      have lw : ∀ a, OwW σ (lock oo env) a → OwW σ env a := fun a h => by
        cases oo with
        | none => exact h
        | some i =>
          obtain ⟨x, hl⟩ := ho i rfl
          rw [lock_look hl] at h
          have hi : i < env.length := look_lt (by rw [hl]; exact fun z => nomatch z)
          obtain ⟨j, y, h1, h2⟩ := h
          rw [look_set env i j _ hi] at h1
          by_cases c : j = i
          · rw [if_pos c] at h1; cases h1
          · rw [if_neg c] at h1; exact ⟨j, y, h1, h2⟩
      have erh : ER X.K M (UZ Z σ (lock oo env)) H st σ (hideB bb (lock oo env)) := by
        cases bb with
        | false => exact rl.er
        | true => exact rl.er.hide
      refine ⟨M, _, st, _, xs, s1, erh, hg, fun J H1 M1 Hl p1 so1 hl wd => ?_⟩
      -- from the loop's head
      have back : ∀ {σ2 : L2.St} {env2 : Ev} {M2 : List Addr} {H2 : Hp}, SSt (OwW σ (lock oo env)) M1 H1 (OwW σ2 env2) M2 H2 → SSt (OwW σ (lock oo env)) M H (OwW σ2 env2) M2 H2 := fun s => (SSt.ofStp p1 so1 fun _ z => .inl z).trans s
      have done : ∀ {σ2 : L2.St} {e2 : Ev} {s2 : Sto} {M2 : List Addr} {H2 : Hp}, SSt (OwW σ (lock oo env)) M1 H1 (OwW σ2 e2) M2 H2 → Lks σ (lock oo env) σ2 e2 → SRl X.K M2 Z H2 s2 σ2 e2 → (f1, e1, s9) = (.nx, e2, s2) → D.nx σ2 H2 := fun {σ2 e2 s2 M2 H2} s l r2 ee => by
        cases ee
        obtain ⟨rfl, rfl, s', l', r'⟩ := unl_nx ho e (back s) l r2
        exact q _ _ _ s' l' r'
      have rts : ∀ w, f1 = .rt w → RPost X.K M1 Z H1 (OwW σ (lock oo env)) s9 w D.rt := fun w hw => by
        subst hw
        have q' : RPost X.K M Z H (OwW σ env) s9 w D.rt := by
          cases oo with
          | none => cases e; exact q
          | some i => cases e; exact q
        have b4 := back (SSt.refl (W' := OwW σ (lock oo env)) fun _ z => z)
        exact q'.go ⟨b4.pre, b4.new, fun a u n w' => b4.fr a u n fun z => w' (lw a z), fun a z => (b4.w a z).elim (fun z => .inl (lw a z)) .inr, b4.th⟩
      have r1 := rl.step p1 so1
      rcases hl with rfl | ⟨d, u, o, nb, du, hd, rfl, hn⟩
      · exact sem_for_go (D := Pk.unD X D) hz r1 wd hr (fun s l r ee => .inl (done s l r ee)) fun w hw => (rts w hw).mono fun _ _ => .inl
      · have hW : ∀ a, OwW σ (lock oo env) a → UZ Z σ (lock oo env) a := fun a w => .inr w.v
        refine sem_for_go (D := Pk.unD X D) hz ⟨r1.er.lk (LkD.of du hd) nb, r1.ds, r1.nz⟩ wd hr (fun {σ2 e2 s2 M2 H2} s l r ee => ?_) fun w hw => (rts w hw).unlk nb hW (fun a z => .inl z) du hd hn
        obtain ⟨h1, h2, h3, h4⟩ := s.unlk nb hW hd
        refine .inr ⟨d, o, u, h1, hn, done h2 l ⟨r.er.lk (LkD.back du h1) fun z => ?_, r.ds, r.nz⟩ ee⟩
        rcases z with z | z | ⟨j, y, g1, g2⟩
        · exact h3 z
        · exact nb (.inr (.inl z))
        · rcases g1 with g1 | g1
          · exact h4 ⟨j, y, g1, g2⟩
          · obtain ⟨q1, q2⟩ := l j y g1
            exact nb (.inr (.inr ⟨j, y, .inr q1, by rw [← q2]; exact g2⟩))
end
section
variable {K : PySem.W.Frag} {B B' : Addr → Prop} {M M' M2 : List Addr} {U Z T : Addr → Prop} {H H' H2 : Hp} {st st' : Sto} {σ : L2.St} {env : Ev}
theorem ER.updT {p : Addr} {o : HO} (er : ER K M U H st σ env) (u : U p) (no : ∀ a, OwV σ env a → a ≠ p) (nt : NoT o := by exact fun _ q => nomatch q) : ER K M U (upd H p o) st σ env :=
  ⟨er.sto.upd u nt, er.len, fun j => by
    have q := er.env j
    cases hl : look env j with
    | no => trivial
    | sh x => rw [hl] at q; obtain ⟨v, e, r⟩ := q; exact ⟨v, e, r.keep (keepU u)⟩
    | kt x => rw [hl] at q; exact q.keep (keepU u)
    | ow x => rw [hl] at q; obtain ⟨a, e, u', q⟩ := q; exact ⟨a, e, u', q.keep (keepU u) fun o h => by rw [upd_ne (no a ⟨j, x, .inl hl, e⟩)]; exact h⟩
    | lk x => rw [hl] at q; obtain ⟨a, e, u', q⟩ := q; exact ⟨a, e, u', q.keep (keepU u) fun o h => by rw [upd_ne (no a ⟨j, x, .inr hl, e⟩)]; exact h⟩
    | rf n => rw [hl] at q; exact q⟩
theorem ER.eqv {U' : Addr → Prop} (er : ER K M U H st σ env) (h : ∀ a, U a ↔ U' a) : ER K M U' H st σ env := by
  have : U = U' := funext fun a => propext (h a)
  rw [← this]; exact er
inductive DlR (K : PySem.W.Frag) (B : Addr → Prop) (H : Hp) : List (Key × V) → List Addr → DL → Prop
  | nil : DlR K B H [] [] []
  | cons {n : Str} {b : Addr} {x : PyData} {kvs : List (Key × V)} {bs : List Addr} {ds : DL} : OwAt K B H H b x → DlR K B H kvs bs ds → DlR K B H ((.inr n, .ref b) :: kvs) (b :: bs) ((n, x) :: ds)
theorem DlR.keep (f : Keep B B' H H') : ∀ {kvs : List (Key × V)} {bs : List Addr} {ds : DL}, DlR K B H kvs bs ds → (∀ b ∈ bs, ∀ o, H b = some o → H' b = some o) → DlR K B' H' kvs bs ds
  | _, _, _, .nil, _ => .nil
  | _, _, _, .cons h t, g => .cons (h.keep f (g _ List.mem_cons_self)) (t.keep f fun b hb => g b (List.mem_cons_of_mem _ hb))
theorem DlR.len : ∀ {kvs : List (Key × V)} {bs : List Addr} {ds : DL}, DlR K B H kvs bs ds → kvs.length = ds.length
  | _, _, _, .nil => rfl
  | _, _, _, .cons _ t => congrArg (· + 1) t.len
theorem DlR.kv : ∀ {kvs : List (Key × V)} {bs : List Addr} {ds : DL}, DlR K B H kvs bs ds → (∀ b ∈ bs, ¬ B b) → RpKv K B H kvs (ds.map fun p => (.str p.1, p.2))
  | _, _, _, .nil, _ => .nil
  | _, _, _, .cons h t, g => .cons (k := .inr _) (h.rp (g _ List.mem_cons_self)) (t.kv fun b hb => g b (List.mem_cons_of_mem _ hb))
theorem DlR.find (n : Str) : ∀ {kvs : List (Key × V)} {bs : List Addr} {ds : DL}, DlR K B H kvs bs ds → ((ds.any fun p => p.1 == n) = true ∧ ∃ b x, b ∈ bs ∧ valV kvs (.inr n : Key) = some (.ref b) ∧ dlGet n ds = some x ∧ OwAt K B H H b x) ∨ ((ds.any fun p => p.1 == n) = false ∧ valV kvs (.inr n : Key) = none)
  | _, _, _, .nil => .inr ⟨rfl, rfl⟩
  | _, _, _, .cons (n := m) (b := b) (x := x) h t => by
    by_cases e : m = n
    · subst e
      exact .inl ⟨by simp, b, x, List.mem_cons_self, valV_pos rfl, if_pos (by simp), h⟩
    · have e' : ¬ ((Sum.inr m : Key), (V.ref b)).1 = (.inr n : Key) := fun z => e (Sum.inr.inj z)
      have e2 : (m == n) = false := by simpa using e
      rcases t.find n with ⟨h1, c, y, h2, h3, h4, h5⟩ | ⟨h1, h2⟩
      · exact .inl ⟨by rw [List.any_cons, h1, Bool.or_true], c, y, List.mem_cons_of_mem _ h2, by rw [valV_neg e']; exact h3, by unfold dlGet; rw [if_neg (by rw [e2]; exact Bool.false_ne_true)]; exact h4, h5⟩
      · exact .inr ⟨by rw [List.any_cons, h1, Bool.or_false]; exact e2, by rw [valV_neg e']; exact h2⟩
theorem DlR.set (n : Str) {y : PyData} {b : Addr} {o : HO} (kp : Keep B B H (upd H b o)) (hy : OwAt K B (upd H b o) (upd H b o) b y) : ∀ {kvs : List (Key × V)} {bs : List Addr} {ds : DL}, DlR K B H kvs bs ds → bs.Nodup → valV kvs (.inr n : Key) = some (.ref b) →
    DlR K B (upd H b o) kvs bs (dlSet n y ds)
  | _, _, _, .nil, _, e => by cases e
  | _, _, _, .cons (n := m) (b := c) (x := x) (bs := bs) (ds := ds) h t, nd, e => by
    obtain ⟨n1, n2⟩ := List.nodup_cons.mp nd
    by_cases c0 : m = n
    · subst c0
      rw [valV_pos rfl] at e
      cases e
      show DlR K B _ _ _ (if (m == m) = true then (m, y) :: ds else (m, x) :: dlSet m y ds)
      rw [if_pos (by simp)]
      exact .cons hy (t.keep kp fun b' hb o ho => by rw [upd_ne fun z => n1 (by rw [← z]; exact hb)]; exact ho)
    · have e' : ¬ ((Sum.inr m : Key), (V.ref c)).1 = (.inr n : Key) := fun z => c0 (Sum.inr.inj z)
      rw [valV_neg e'] at e
      show DlR K B _ _ _ (if (m == n) = true then (m, y) :: ds else (m, x) :: dlSet n y ds)
      rw [if_neg (by simpa using c0)]
      have hb : b ∈ bs := by
        rcases t.find n with ⟨_, d, _, h6, h7, _⟩ | ⟨_, h6⟩
        · rw [h7] at e; cases e; exact h6
        · rw [h6] at e; cases e
      exact .cons (h.keep kp fun o ho => by rw [upd_ne fun z => n1 (by rw [z]; exact hb)]; exact ho) (DlR.set n kp hy t n2 e)
structure Px (T : Addr → Prop) (M : List Addr) (H : Hp) (M' : List Addr) (H' : Hp) : Prop where
  pre : M <+: M'
  new : ∀ a ∈ M', a ∈ M ∨ H a = none
  fr : ∀ a o, a ∉ M → ¬ T a → H a = some o → H' a = some o
  tr : ∀ a ∈ M, ∃ o, H' a = some o
  at0 : ∀ a, T a → ∃ o, H' a = some o
theorem Px.none (p : Px T M H M' H') {a : Addr} (e : H' a = Option.none) : H a = Option.none := by
  cases q : H a with
  | none => rfl
  | some o =>
    by_cases m : a ∈ M
    · obtain ⟨u, z⟩ := p.tr a m
      rw [e] at z; cases z
    · by_cases n : T a
      · obtain ⟨u, z⟩ := p.at0 a n
        rw [z] at e; cases e
      · rw [p.fr a o m n q] at e; cases e
theorem Px.step (p : Px T M H M' H') (s : Stp M' H' M2 H2) (so : StoOk K M2 U H2 st) (h0 : ∀ a, T a → a ∉ M') : Px T M H M2 H2 where
  pre := p.pre.trans s.pre
  new := fun a h => (s.new a h).elim (p.new a) fun z => .inr (p.none z)
  fr := fun a o m n e => s.fr a o (fun z => (p.new a z).elim m fun q => by rw [q] at e; cases e) (p.fr a o m n e)
  tr := fun a m => so.tracked a (.inl (s.mem (p.pre.subset m)))
  at0 := fun a z => let ⟨o, e⟩ := p.at0 a z; ⟨o, s.fr a o (h0 a z) e⟩
theorem Px.upd {a : Addr} {o : HO} (p : Px T M H M' H') (h : T a ∨ H a = Option.none) (hm : a ∉ M') : Px T M H M' (upd H' a o) where
  pre := p.pre
  new := p.new
  fr := fun b u m n e => by
    rw [upd_ne]
    · exact p.fr b u m n e
    · intro z
      rcases h with h | h
      · exact n (by rw [z]; exact h)
      · rw [z, h] at e; cases e
  tr := fun b m => by
    rw [upd_ne fun z => hm (by rw [← z]; exact p.pre.subset m)]
    exact p.tr b m
  at0 := fun b z => by
    by_cases c : b = a
    · rw [c]; exact ⟨_, upd_same⟩
    · rw [upd_ne c]; exact p.at0 b z
structure DlH (K : PySem.W.Frag) (M1 : List Addr) (U : Addr → Prop) (H1 : Hp) (Da : Addr) (σ : L2.St) (H : Hp) (M : List Addr) (st : Sto) (env : Ev) (ds : DL) (kvs : List (Key × V)) (bs : List Addr) : Prop where
  er : ER K M (fun a => U a ∨ a ∈ Da :: bs) H st σ env
  p : Px (fun a => a = Da) M1 H1 M H
  nw : ∀ a ∈ bs, H1 a = none
  nd : (Da :: bs).Nodup
  hD : H Da = some (.dK kvs)
  dl : DlR K (Bar M fun a => U a ∨ a ∈ Da :: bs) H kvs bs ds
  no : ∀ a, OwV σ env a → a ∉ Da :: bs
section
variable {M1 : List Addr} {H1 : Hp} {Da : Addr} {ds : DL} {kvs : List (Key × V)} {bs : List Addr}
theorem DlH.nM (I : DlH K M1 U H1 Da σ H M st env ds kvs bs) {a : Addr} (h : a ∈ Da :: bs) : a ∉ M := fun z => I.er.sto.ap a z (.inr h)
theorem DlH.step (I : DlH K M1 U H1 Da σ H M st env ds kvs bs) (s : Stp M H M' H') (so : StoOk K M' (fun a => U a ∨ a ∈ Da :: bs) H' st') : DlH K M1 U H1 Da σ H' M' st' env ds kvs bs where
  er := I.er.step s so
  p := I.p.step s so fun a z => by rw [z]; exact I.nM List.mem_cons_self
  nw := I.nw
  nd := I.nd
  hD := s.fr _ _ (I.nM List.mem_cons_self) I.hD
  dl := I.dl.keep s.keep fun b hb o e => s.fr b o (I.nM (List.mem_cons_of_mem _ hb)) e
  no := I.no
theorem DlH.frame {σ' : L2.St} {env' : Ev} (I : DlH K M1 U H1 Da σ H M st env ds kvs bs) (er : ER K M (fun a => U a ∨ a ∈ Da :: bs) H st σ' env') (h : ∀ a, OwV σ' env' a → OwV σ env a) : DlH K M1 U H1 Da σ' H M st env' ds kvs bs :=
  ⟨er, I.p, I.nw, I.nd, I.hD, I.dl, fun a z => I.no a (h a z)⟩
theorem DlH.set (I : DlH K M1 U H1 Da σ H M st env ds kvs bs) {n : Str} {b : Addr} (hb : valV kvs (.inr n : Key) = some (.ref b)) :
    ∃ x, dlGet n ds = some x ∧ OwAt K (Bar M fun a => U a ∨ a ∈ Da :: bs) H H b x ∧ (U b ∨ b ∈ Da :: bs) ∧ ∀ o y, OwAt K (Bar M fun a => U a ∨ a ∈ Da :: bs) (upd H b o) (upd H b o) b y → DlH K M1 U H1 Da σ (upd H b o) M st env (dlSet n y ds) kvs bs := by
  rcases I.dl.find n with ⟨_, d, x, h6, h7, h8, h9⟩ | ⟨_, h6⟩
  · rw [h7] at hb
    cases hb
    have bm := List.mem_cons_of_mem Da h6
    have u : (fun a => U a ∨ a ∈ Da :: bs) b := .inr bm
    refine ⟨x, h8, h9, u, fun o y hy => ⟨I.er.updT u (fun c h z => I.no c h (by rw [z]; exact bm)) (by obtain ⟨o', e', n⟩ := hy.someN; rw [upd_same] at e'; cases e'; exact n), I.p.upd (.inr (I.nw b h6)) (I.nM bm), I.nw, I.nd, ?_, I.dl.set n (keepU u) hy (List.nodup_cons.mp I.nd).2 h7, I.no⟩⟩
    rw [upd_ne fun z => (List.nodup_cons.mp I.nd).1 (by rw [z]; exact h6)]
    exact I.hD
  · rw [h6] at hb; cases hb
theorem DlH.done {Z : Addr → Prop} {σ0 : L2.St} {env0 : Ev} {H0 : Hp} {M0 : List Addr} {st0 : Sto} {i : Nat} (I : DlH K M1 (fun a => UZ Z σ0 env0 a) H1 Da σ H M st env ds kvs bs) (r : SRl K M0 Z H0 st0 σ0 env0) (n0 : H0 Da = none) (hi : i < env.length)
    (pre : M0 <+: M1) (new : ∀ a ∈ M1, a ∈ M0 ∨ H0 a = none) (fr : ∀ a o, a ∉ M0 → H0 a = some o → H1 a = some o) (so1 : ∀ a ∈ M1, ∃ o, H1 a = some o) (sub : Sub σ0 env0 σ env) (si : (σ[i]?).join = some (.ref Da)) :
    SSt (OwW σ0 env0) M0 H0 (OwW σ (env.set i (.ow (dlD ds)))) M H ∧ Lks σ0 env0 σ (env.set i (.ow (dlD ds))) ∧ SRl K M Z H st σ (env.set i (.ow (dlD ds))) := by
  have lk : ∀ j, look (env.set i (.ow (dlD ds))) j = if j = i then .ow (dlD ds) else look env j := fun j => look_set env i j _ hi
  have vv : ∀ b, OwV σ (env.set i (.ow (dlD ds))) b → OwV σ0 env0 b ∨ b = Da := fun b ⟨j, y, h1, h2⟩ => by
    rw [lk] at h1
    by_cases c : j = i
    · rw [c, si] at h2; cases h2; exact .inr rfl
    · rw [if_neg c] at h1; exact .inl (sub.v ⟨j, y, h1, h2⟩)
  have uz0 : ∀ b, UZ Z σ0 env0 b → b ≠ Da := fun b u z => by
    obtain ⟨o, e⟩ := r.er.sto.tr b u
    rw [z, n0] at e; cases e
  have bn : ∀ b ∈ bs, ¬ Bar M (fun a => UZ Z σ0 env0 a ∨ a = Da) b := fun b hb z => by
    rcases z with z | z | z
    · exact I.nM (List.mem_cons_of_mem _ hb) z
    · obtain ⟨o, e⟩ := r.er.sto.tr b z
      have h1 := I.nw b hb
      by_cases m : b ∈ M0
      · exact I.nM (List.mem_cons_of_mem _ hb) (I.p.pre.subset (pre.subset m))
      · rw [fr b o m e] at h1; cases h1
    · exact (List.nodup_cons.mp I.nd).1 (by rw [← z]; exact hb)
  have le : ∀ a, (UZ Z σ0 env0 a ∨ a = Da) → (UZ Z σ0 env0 a ∨ a ∈ Da :: bs) := fun a z => z.imp id fun z => by rw [z]; exact List.mem_cons_self
  have er1 : ER K M (fun a => UZ Z σ0 env0 a ∨ a = Da) H st σ env := I.er.less le fun a h => .inl (.inr (sub.v h))
  have d1 : DlR K (Bar M fun a => UZ Z σ0 env0 a ∨ a = Da) H kvs bs ds := I.dl.keep (fun b o nb e => ⟨e, fun z => nb (z.imp id (le b))⟩) fun _ _ _ e => e
  have er2 : ER K M (fun a => UZ Z σ0 env0 a ∨ a = Da) H st σ (env.set i (.ow (dlD ds))) := by
    refine ⟨er1.sto, by rw [List.length_set]; exact er1.len, fun j => ?_⟩
    rw [lk]
    by_cases c : j = i
    · rw [if_pos c, c, si]
      exact ⟨Da, rfl, .inr rfl, .inl ⟨kvs, I.hD, d1.kv bn⟩⟩
    · rw [if_neg c]; exact er1.env j
  have thr : ∀ a, (∃ o, H0 a = some o) → ∃ o, H a = some o := fun a ⟨o, e⟩ => by
    by_cases m : a ∈ M0
    · exact I.p.tr a (pre.subset m)
    · by_cases m1 : a ∈ M1
      · exact I.p.tr a m1
      · exact ⟨o, I.p.fr a o m1 (fun z => by rw [z, n0] at e; cases e) (fr a o m e)⟩
  refine ⟨⟨pre.trans I.p.pre, fun a h => ?_, fun a o m w e => ?_, fun a w => ?_, thr⟩, fun j x h => ?_, ⟨er2.less (fun a z => ?_) fun a z => .inr z, fun j k a hj hk e1 e2 => ?_, fun a z => ?_⟩⟩
  · rcases I.p.new a h with h | h
    · exact new a h
    · right
      cases q : H0 a with
      | none => rfl
      | some o =>
        by_cases m : a ∈ M0
        · obtain ⟨u, z⟩ := so1 a (pre.subset m)
          rw [z] at h; cases h
        · rw [fr a o m q] at h; cases h
  · have m1 : a ∉ M1 := fun z => (new a z).elim m fun q => by rw [q] at e; cases e
    exact I.p.fr a o m1 (fun z => by rw [z, n0] at e; cases e) (fr a o m e)
  · obtain ⟨j, x, h1, h2⟩ := w
    rw [lk] at h1
    by_cases c : j = i
    · rw [c, si] at h2; cases h2; exact .inr n0
    · rw [if_neg c] at h1; exact .inl (sub.w ⟨j, x, h1, h2⟩)
  · rw [lk] at h
    by_cases c : j = i
    · rw [if_pos c] at h; cases h
    · rw [if_neg c] at h
      obtain ⟨h1, h2⟩ := sub j ⟨x, .inr h⟩
      exact ⟨by rw [← h1]; exact h, h2⟩
  · rcases z with z | z
    · exact .inl (.inl z)
    · exact (vv a z).imp .inr id
  · have out : ∀ l, l ≠ i → IsOw (look (env.set i (.ow (dlD ds))) l) → (σ[l]?).join = some (.ref Da) → False := fun l c ⟨y, hy⟩ q => by
      rw [lk, if_neg c] at hy
      exact uz0 Da (.inr (sub.v ⟨l, y, hy, q⟩)) rfl
    by_cases c : j = i
    · by_cases c' : k = i
      · rw [c, c']
      · rw [c, si] at e1; cases e1
        exact (out k c' hk e2).elim
    · by_cases c' : k = i
      · rw [c', si] at e2; cases e2
        exact (out j c hj e1).elim
      · rw [lk, if_neg c] at hj
        rw [lk, if_neg c'] at hk
        obtain ⟨h1, h2⟩ := sub j hj
        obtain ⟨h3, h4⟩ := sub k hk
        exact r.ds j k a (h1 ▸ hj) (h3 ▸ hk) (h2 ▸ e1) (h4 ▸ e2)
  · rcases vv a z with z | z
    · exact r.nz a z
    · intro hz
      exact uz0 a (.inl hz) z
end
end
section
variable {K : PySem.W.Frag} {D : Ends} {σ : L2.St} {H : Hp}
end
section
variable {K : PySem.W.Frag} {D : Ends} {σ : L2.St} {H : Hp}
end
end Pi

end
section
set_option Elab.async false
set_option linter.all false
set_option maxRecDepth 100000
set_option maxHeartbeats 1000000
namespace Pi
open PySem PySem.Spec PyProof.Rows L2
structure Ck where
  N : List Str
  gs : List Str
  fs : List (Str × Nat)
  kw : List (Nat × Nat × List Str × List Nat)
  bl : List Str
  xs : List (Str × Str)
  kt : List Nat
def glB (sc : Scope) (x : Str) : Bool := sc.names.lookup x == some .globalImplicit
def nmB (x : Str) : Bool := !(x == ("__debug__" : Str)) && !(x == ("__classdict__" : Str))
def visB (sc : Scope) (x : Str) : Bool := match sc.names.lookup x with
  | some .local => true
  | some .cell => true
  | some .free => true
  | _ => false
def stB (sc rs : Scope) (x : Str) : Bool := match sc.names.lookup x with
  | some .local => true
  | some .cell => rs.names.lookup x == some .cell
  | _ => false
def bltB (C : Ck) (sc : Scope) (x : Str) : Bool := glB sc x && C.bl.contains x
def opB : Bop → Operator
  | .add => .Add | .sub => .Sub | .mul => .Mult | .fdiv => .FloorDiv | .mod => .Mod | .pow => .Pow
mutual
def chkT (C : Ck) (sc rs : Scope) : Tg → Expr → Bool
  | .n i, x => (match x with
    | .Name y _ => C.N[i]? == some y && stB sc rs y
    | _ => false)
  | .t ts, x => (match x with
    | .Tuple l _ _ => chkTs C sc rs ts l
    | _ => false)
def chkTs (C : Ck) (sc rs : Scope) : Tgs → List Expr → Bool
  | .nil, l => l.isEmpty
  | .cons t ts, l => (match l with
    | x :: l => chkT C sc rs t x && chkTs C sc rs ts l
    | [] => false)
end
def tysB (C : Ck) (sc : Scope) : List Ty → List Expr → Bool
  | [], l => l.isEmpty
  | t :: ts, l => (match l with
    | .Name y _ :: l => y == t.id && bltB C sc y && tysB C sc ts l
    | _ => false)
def blkB (C : Ck) (sc scope : Scope) (vs : List Nat) : Bool :=
  decide (scope.kind = .function) && scope.names.all (fun y => scope.names.lookup y.1 == some y.2 &&
    (if y.2 == .free then sc.names.lookup y.1 == some .cell || sc.names.lookup y.1 == some .free else true) &&
    (if y.2 == .local || y.2 == .cell then (vs.any (fun i => C.N[i]? == some y.1) || !(C.N.contains y.1)) else true)) && vs.all (fun i => decide (i < C.N.length))
def ownOf (N : List Str) (vs : List Nat) : List (Str × Nat) := vs.map fun i => (N.getD i "", i)
def noIt : E → Bool
  | .ite .. => false
  | .and a b => noIt a && noIt b
  | .or a b => noIt a && noIt b
  | .not a => noIt a
  | _ => true
def plainX : Expr → Bool
  | .Call _ [] [] _ => false
  | _ => true
mutual
def chkE (C : Ck) : E → Scope → Scope → Expr → Bool
  | .non, sc, rs, x => (match x with | .Constant .none _ _ => true | _ => false)
  | .bl b, sc, rs, x => (match x with | .Constant (.bool c) _ _ => b == c | _ => false)
  | .int i, sc, rs, x => (match x with | .Constant (.int j) _ _ => decide (i = j) | _ => false)
  | .str s, sc, rs, x => (match x with | .Constant (.str t) _ _ => decide (s = t) | _ => false)
  | .v i, sc, rs, x => (match x with | .Name y _ => C.N[i]? == some y && visB sc y && nmB y | _ => false)
  | .g i, sc, rs, x => (match x with | .Name y _ => C.gs[i]? == some y && glB sc y && nmB y | _ => false)
  | .tup es, sc, rs, x => (match x with | .Tuple l _ _ => chkEl C es sc rs l | _ => false)
  | .lst es, sc, rs, x => (match x with | .List l _ => chkEl C es sc rs l | _ => false)
  | .bin op a b, sc, rs, x => (match x with | .BinOp l o r _ => decide (o = opB op) && chkE C a sc rs l && chkE C b sc rs r | _ => false)
  | .neg a, sc, rs, x => (match x with | .UnaryOp .USub y _ => chkE C a sc rs y | _ => false)
  | .cmp op a b, sc, rs, x => (match x with | .Compare l [o] [r] _ => decide (o = opC op) && nice r && chkE C a sc rs l && chkE C b sc rs r | _ => false)
  | .isN a, sc, rs, x => (match x with | .Compare l [.Is] [.Constant .none _ _] _ => chkE C a sc rs l | _ => false)
  | .isnN a, sc, rs, x => (match x with | .Compare l [.IsNot] [.Constant .none _ _] _ => chkE C a sc rs l | _ => false)
  | .and a b, sc, rs, x => (match x with
    | .BoolOp .And [l, r] _ => chkE C a sc rs l && chkE C b sc rs r
    | .BoolOp .And (l :: m :: r :: rest) p => chkE C a sc rs l && chkE C b sc rs (.BoolOp .And (m :: r :: rest) p)
    | _ => false)
  | .or a b, sc, rs, x => (match x with
    | .BoolOp .Or [l, r] _ => chkE C a sc rs l && chkE C b sc rs r
    | .BoolOp .Or (l :: m :: r :: rest) p => chkE C a sc rs l && chkE C b sc rs (.BoolOp .Or (m :: r :: rest) p)
    | _ => false)
  | .not a, sc, rs, x => (match x with | .UnaryOp .Not y _ => chkE C a sc rs y | _ => false)
  | .ite c a b, sc, rs, x => (match x with | .IfExp t y z _ => noIt c && chkE C c sc rs t && chkE C a sc rs y && chkE C b sc rs z | _ => false)
  | .ix a i, sc, rs, x => (match x with | .Subscript y z _ => nice z && chkE C a sc rs y && chkE C i sc rs z | _ => false)
  | .bx i k, sc, rs, x => (match x with | .Subscript (.Name y _) z _ => C.N[i]? == some y && visB sc y && nmB y && nice z && chkE C k sc rs z | _ => false)
  | .sl a lo hi, sc, rs, x => (match x with | .Subscript y (.Slice l u none _) _ => chkE C a sc rs y && chkO C lo sc rs l && chkO C hi sc rs u | _ => false)
  | .exn n f a, sc, rs, x => (match x with | .Call (.Name y _) [z] [] _ => decide (y = n) && decide ((n, f) ∈ C.xs) && decide (f ≠ "given") && glB sc y && nice z && chkE C a sc rs z | _ => false)
  | .exk n f a, sc, rs, x => (match x with | .Call (.Name y _) [] [⟨some g, z, _⟩] _ => decide (y = n) && decide (g = f) && decide ((n, f) ∈ C.xs) && decide (f ≠ "given") && glB sc y && chkE C a sc rs z | _ => false)
  | .exz n f, sc, rs, x => (match x with | .Call (.Name y _) [] [] _ => decide (y = n) && decide ((n, f) ∈ C.xs) && decide (f = "given") && glB sc y | _ => false)
  | .xis own z xs a, sc, rs, x => (match x with
    | .Call (.Name u _) [y, .Name c _] [] _ => decide (u = "isinstance") && bltB C sc u && nice y && xs.all (fun q => C.xs.contains q) && decide (c = z) && (if own then glB sc c && C.xs.any (fun q => q.1 == c) else (decide (c = "ValueError") && bltB C sc c) || (decide (c = "RuleError") && glB sc c && !C.xs.isEmpty)) && chkE C a sc rs y
    | _ => false)
  | .xfd f xs a, sc, rs, x => (match x with | .Attribute y g _ => decide (g = f) && plainX y && xs.all (fun q => C.xs.contains q) && chkE C a sc rs y | _ => false)
  | .call f es, sc, rs, x => (match x with | .Call (.Name y _) l [] _ => C.fs[f]? == some (y, l.length) && glB sc y && nmB y && chkEs C es sc rs l | _ => false)
  | .f1 f a, sc, rs, x => (match x with | .Call (.Name y _) [z] [] _ => decide (y = f.name.1) && bltB C sc y && (if f = .sset ∨ f = .lset then (match z with | .Call (.Name y2 _) [z2] [] _ => decide (y2 = "set") && bltB C sc y2 && nice z2 && chkE C a sc rs z2 | _ => false) else nice z && chkE C a sc rs z) | _ => false)
  | .f2 f a b, sc, rs, x => (match x with | .Call (.Name y _) [z, w] [] _ => decide (y = f.name) && bltB C sc y && nice z && nice w && chkE C a sc rs z && chkE C b sc rs w | _ => false)
  | .dnew t, sc, rs, x => (match x with | .Dict [] [] _ => true | _ => false)
  | .isi a ts, sc, rs, x => (match x with
    | .Call (.Name y _) [z, .Name u p] [] _ => decide (y = "isinstance") && bltB C sc y && nice z && decide (ts.length = 1) && tysB C sc ts [.Name u p] && chkE C a sc rs z
    | .Call (.Name y _) [z, .Tuple l _ _] [] _ => decide (y = "isinstance") && bltB C sc y && nice z && decide (ts.length ≤ SL) && tysB C sc ts l && chkE C a sc rs z
    | _ => false)
  | .lc vs e t it c, sc, rs, x => (match x with
    | .ListComp elt [⟨tg, iter, ifs, 0⟩] scope _ => blkB C sc scope vs && (slots t).all (fun i => vs.contains i) && nice iter && chkT C (relS scope sc) scope t tg && chkI C it sc rs tg iter && chkC C c (relS scope sc) scope ifs && chkE C e (relS scope sc) scope elt
    | _ => false)
def chkEs (C : Ck) : Es → Scope → Scope → List Expr → Bool
  | .nil, sc, rs, l => l.isEmpty
  | .cons e es, sc, rs, l => (match l with | x :: l => nice x && chkE C e sc rs x && chkEs C es sc rs l | [] => false)
  | .star _ _, _, _, _ => false
def chkEl (C : Ck) : Es → Scope → Scope → List Expr → Bool
  | .nil, sc, rs, l => l.isEmpty
  | .cons e es, sc, rs, l => (match l with | x :: l => nice x && chkE C e sc rs x && chkEl C es sc rs l | [] => false)
  | .star e es, sc, rs, l => (match l with | .Starred x _ :: l => chkE C e sc rs x && chkEl C es sc rs l | _ => false)
def chkKs (C : Ck) : Es → Scope → Scope → List Keyword → Bool
  | .nil, sc, rs, l => l.isEmpty
  | .cons e es, sc, rs, l => (match l with | ⟨_, x, _⟩ :: l => chkE C e sc rs x && chkKs C es sc rs l | [] => false)
  | .star _ _, _, _, _ => false
def chkO (C : Ck) : Oe → Scope → Scope → Option Expr → Bool
  | .no, sc, rs, o => o.isNone
  | .yes e, sc, rs, o => (match o with | some x => chkE C e sc rs x | none => false)
def chkC (C : Ck) : Oe → Scope → Scope → List Expr → Bool
  | .no, sc, rs, l => l.isEmpty
  | .yes e, sc, rs, l => (match l with | [x] => noIt e && chkE C e sc rs x | _ => false)
def chkI (C : Ck) : It → Scope → Scope → Expr → Expr → Bool
  | .of e, sc, rs, tg, x => chkE C e sc rs x
  | .rng1 a, sc, rs, tg, x => (match x with | .Call (.Name y _) [z] [] _ => decide (y = "range") && bltB C sc y && nice z && chkE C a sc rs z | _ => false)
  | .rng2 a b, sc, rs, tg, x => (match x with | .Call (.Name y _) [z, w] [] _ => decide (y = "range") && bltB C sc y && nice z && nice w && chkE C a sc rs z && chkE C b sc rs w | _ => false)
  | .enm a, sc, rs, tg, x => (match tg with
    | .Tuple _ _ _ => (match x with | .Call (.Name y _) [z] [] _ => decide (y = "enumerate") && bltB C sc y && nice z && chkE C a sc rs z | _ => false)
    | _ => false)
  | .zip a b, sc, rs, tg, x => (match tg with
    | .Tuple _ _ _ => (match x with | .Call (.Name y _) [z, w] [] _ => decide (y = "zip") && bltB C sc y && nice z && nice w && chkE C a sc rs z && chkE C b sc rs w | _ => false)
    | _ => false)
end
end Pi

end
section
set_option Elab.async false
set_option linter.all false
set_option maxRecDepth 100000
set_option maxHeartbeats 1000000
namespace Pi
open PySem PySem.Spec PyProof.Rows L2
structure ClsOk (K : PySem.W.Frag) (mg : Str → Option Value) (Cn fld : Str) (Ca : Addr) : Prop where
  T : OexC K Ca
  mgc : mg Cn = some (.ref Ca)
  no : PySem.W.findIn K (.ref Ca) fld = some none
  ini : fld ≠ "given" → ∃ (fI : Addr) (fd : FuncData) (nm qual x q : Str) (st : Stmt), PySem.W.findIn K (.ref Ca) "__init__" = some (some (.ref fI)) ∧ PySem.W.typeIn K (.ref fI) = some (.type "function") ∧ L2.Fun K nm qual st fI fd ∧ C8.scC [x, q] [x, q] (defScope st) = true ∧
    Pk.isInit x q fld (defBody st) = true ∧ Binds K fd [x, q] [] ∧ ∀ (s : Shared) (a u : Value), K.In s.heap → BindsTo s fd ⟨[a], [(fld, u)]⟩ ([x, q].zip [a, u])
  ini0 : fld = "given" → ∃ (fI : Addr) (fd : FuncData) (nm qual x : Str) (st : Stmt), PySem.W.findIn K (.ref Ca) "__init__" = some (some (.ref fI)) ∧ PySem.W.typeIn K (.ref fI) = some (.type "function") ∧ L2.Fun K nm qual st fI fd ∧ C8.scC [x] [x] (defScope st) = true ∧
    Pk.isInit0 x fld (defBody st) = true ∧ Binds K fd [x] []
  db : (Cn == ("__debug__" : Str)) = false
  xf : XfC K Ca
  ex : ExcC K Ca
  em : PySem.W.exmOne K (.ref Ca) (.ref Ca) = some true
  ve : PySem.W.kitOne K (.ref Ca) (.type "ValueError") = some true
  re : ∃ Cb, mg "RuleError" = some (.ref Cb) ∧ PySem.W.kitOne K (.ref Ca) (.ref Cb) = some true
structure XcOk (xs : List (Str × Str)) (cf : Cf) (K : PySem.W.Frag) (mg : Str → Option Value) (A : Around) : Prop where
  cls : ∀ n f, (n, f) ∈ xs → ∃ Ca, PySem.W.nsIn K mainGlobals n = some (some (.ref Ca)) ∧ ClsOk K mg n f Ca
  one : ∀ n f n' f' Ca Cb, (n, f) ∈ xs → (n', f') ∈ xs → PySem.W.nsIn K mainGlobals n = some (some (.ref Ca)) → PySem.W.nsIn K mainGlobals n' = some (some (.ref Cb)) → PySem.W.kitOne K (.ref Ca) (.ref Cb) = some (n == n')
  rm : ∀ ws st r, cf 999 ws st = some r → Room 2 A
section
variable {K : PySem.W.Frag} {M : List Addr} {U B : Addr → Prop} {H : Hp} {st : Sto}
theorem xn_put {v : V} {x : D} {a dx Ca : Addr} {n f : Str} (so : StoOk K M U H st) (hn : PySem.W.nsIn K mainGlobals n = some (some (.ref Ca))) (r : Rp K (Bar M U) H v x) (na : H a = none) (nd : H dx = none) (ne : dx ≠ a) :
    Stp M H M (upd (upd H dx (exd dx [(f, v)])) a (exo a Ca (some dx))) ∧ StoOk K M U (upd (upd H dx (exd dx [(f, v)])) a (exo a Ca (some dx))) st ∧ Rp K (Bar M U) (upd (upd H dx (exd dx [(f, v)])) a (exo a Ca (some dx))) (.ref a) (xnD n f x) := by
  have na' : upd H dx (exd dx [(f, v)]) a = none := by rw [upd_ne (Ne.symm ne)]; exact na
  have g : ∀ b o, H b = some o → upd (upd H dx (exd dx [(f, v)])) a (exo a Ca (some dx)) b = some o := fun b o e => growN na' b o (growN nd b o e)
  refine ⟨Stp.grow g, so.grow g, .exn hn (notB so.tracked na) (notB so.tracked nd) upd_same ?_ (r.step (Stp.grow g))⟩
  rw [upd_ne ne]; exact upd_same
theorem xn_at {v : V} {y : D} {m g : Str} (h : RpW K B H v (.dict [(.list [.str m, .str g], y)])) : ∃ a C dd w, v = .ref a ∧ PySem.W.nsIn K mainGlobals m = some (some (.ref C)) ∧ H a = some (exo a C (some dd)) ∧ H dd = some (exd dd [(g, w)]) ∧ Rp K B H w y := by
  have noK : ∀ {kvs : List (Key × V)}, RpKv K B H kvs [(.list [.str m, .str g], y)] → False := fun {kvs} r => by
    generalize hq : [(PyData.list [.str m, .str g], y)] = l at r
    cases r with
    | nil => cases hq
    | @cons k _ _ _ _ h r =>
      have := congrArg Prod.fst (List.cons.inj hq).1
      rcases k with i | z <;> cases this
  rcases h with h | ⟨a, rfl, h⟩
  · cases h with
    | dK n h r => exact (noK r).elim
    | exn c n1 n2 h1 h2 r => exact ⟨_, _, _, _, rfl, c, h1, h2, r⟩
  · rcases h with ⟨kvs, e, r⟩ | ⟨kvs, es, q, e, r⟩
    · exact (noK r).elim
    · cases q
end
section
variable {X : Cx} {xs : List (Str × Str)} {cf : Cf} {n f : Str} {z : Expr} {p p2 pos kpos : Pos}
theorem se_exn {f0 : Ev → Sto → Option (Vl × Sto)} (xc : XcOk xs cf X.K X.mg X.A) (hm : (n, f) ∈ xs) (hg : f ≠ "given") (gl : Gl X n) (nz : nice z = true) (hz : PE X z (SemE X.K f0)) :
    PE X (.Call (.Name n p) [z] [] pos) (SemE X.K fun env st => bnd (cf 999 [] st) fun _ _ => bnd (toD (f0 env st)) fun x s => some (.d (xnD n f x), s)) := by
  refine ⟨fun pins s σ H Q I ⟨M, U, st, env, w, st', er, e, q⟩ => ?_⟩
  obtain ⟨r0, s0, e0, e⟩ := bnd_eq e
  obtain ⟨x, s1, e1, e⟩ := bnd_eq e
  cases e
  obtain ⟨Ca, hns, T⟩ := xc.cls n f hm
  obtain ⟨fI, fd, nm, qual, y, qv, stm, c9, c10, F, hsc, hin, bd, bk⟩ := T.ini hg
  have F1 := Pk.init_ok (P := X.prog) (w := X.w) (mg := X.mg) (base := X.base) T.T T.no F hsc hin 0
  have hr : Room (0 + 1 + 1) X.A := xc.rm _ _ _ e0
  refine (Pk.pe_exn (te := SemD X.K fun env st => toD (f0 env st)) T.T c9 c10 F1 hr bd pass0 gl T.mgc (semD_of hz) T.db (star1 nz [] X.env)).run pins s σ H Q I ?_
  refine ⟨M, U, st, env, x, _, er, e1, fun v H1 M1 p1 so1 r1 a dx na nd ne => ?_⟩
  obtain ⟨g1, so2, r2⟩ := xn_put so1 hns r1 na nd ne
  exact q _ _ M1 (p1.trans g1) so2 r2
theorem se_exk {f0 : Ev → Sto → Option (Vl × Sto)} (xc : XcOk xs cf X.K X.mg X.A) (hm : (n, f) ∈ xs) (hg : f ≠ "given") (gl : Gl X n) (hz : PE X z (SemE X.K f0)) :
    PE X (.Call (.Name n p) [] [⟨some f, z, kpos⟩] pos) (SemE X.K fun env st => bnd (cf 999 [] st) fun _ _ => bnd (toD (f0 env st)) fun x s => some (.d (xnD n f x), s)) := by
  refine ⟨fun pins s σ H Q I ⟨M, U, st, env, w, st', er, e, q⟩ => ?_⟩
  obtain ⟨r0, s0, e0, e⟩ := bnd_eq e
  obtain ⟨x, s1, e1, e⟩ := bnd_eq e
  cases e
  obtain ⟨Ca, hns, T⟩ := xc.cls n f hm
  obtain ⟨fI, fd, nm, qual, y, qv, stm, c9, c10, F, hsc, hin, bd, bk⟩ := T.ini hg
  have F1 := Pk.init_ok (P := X.prog) (w := X.w) (mg := X.mg) (base := X.base) T.T T.no F hsc hin 0
  have hr : Room (0 + 1 + 1) X.A := xc.rm _ _ _ e0
  refine (Pk.pe_exnK (te := SemD X.K fun env st => toD (f0 env st)) T.T c9 c10 F1 hr bk pass0 gl T.mgc (semD_of hz) T.db).run pins s σ H Q I ?_
  refine ⟨M, U, st, env, x, _, er, e1, fun v H1 M1 p1 so1 r1 a dx na nd ne => ?_⟩
  obtain ⟨g1, so2, r2⟩ := xn_put so1 hns r1 na nd ne
  exact q _ _ M1 (p1.trans g1) so2 r2
theorem se_exz (xc : XcOk xs cf X.K X.mg X.A) (hm : (n, f) ∈ xs) (hg : f = "given") (gl : Gl X n) :
    PE X (.Call (.Name n p) [] [] pos) (SemE X.K fun env st => bnd (cf 999 [] st) fun _ _ => some (.d (xnD n f (.tuple [])), st)) := by
  refine ⟨fun pins s σ H Q I ⟨M, U, st, env, w, st', er, e, q⟩ => ?_⟩
  obtain ⟨r0, s0, e0, e⟩ := bnd_eq e
  cases e
  obtain ⟨Ca, hns, T⟩ := xc.cls n f hm
  obtain ⟨fI, fd, nm, qual, y, stm, c9, c10, F, hsc, hin, bd⟩ := T.ini0 hg
  have F1 := Pk.init0_ok (P := X.prog) (w := X.w) (mg := X.mg) (base := X.base) T.T T.no F hsc hin 0
  have hr : Room (0 + 1 + 1) X.A := xc.rm _ _ _ e0
  refine (Pk.pe_exn0 T.T c9 c10 F1 hr bd pass0 gl T.mgc T.db).run pins s σ H Q I ?_
  intro a Tp o dx na nT nTa od nd ne nTd
  have g0 : ∀ b u, H b = some u → upd H Tp (tuO o []) b = some u := growN nT
  have so0 := er.sto.grow g0
  have rT : Rp X.K (Bar M U) (upd H Tp (tuO o [])) (.ref Tp) (.tuple []) := .tup (.inl ⟨notB er.sto.tracked nT, o, od, upd_same⟩) .nil
  obtain ⟨g1, so2, r2⟩ := xn_put (f := f) so0 hns rT (by rw [upd_ne (Ne.symm nTa)]; exact na) (by rw [upd_ne nTd]; exact nd) ne
  exact q _ _ M ((Stp.grow g0).trans g1) so2 r2
theorem se_xis {f0 : Ev → Sto → Option (D × Sto)} {own : Bool} {zn c : Str} {ys : List (Str × Str)} {cV : V} {cv : Value} (xc : XcOk xs cf X.K X.mg X.A) (hys : ∀ q ∈ ys, q ∈ xs) (hg : Gl X "isinstance") (hm : X.mg "isinstance" = none) (nz : nice z = true) (hz : PE X z (SemB X.K f0))
    (pc : PE X (.Name c p2) (tC cV)) (hcv : ∀ u, RelV cV u → u = cv) (hk : ∀ n f Ca, (n, f) ∈ xs → PySem.W.nsIn X.K mainGlobals n = some (some (.ref Ca)) → PySem.W.kitOne X.K (.ref Ca) cv = some (!own || n == zn)) :
    PE X (.Call (.Name "isinstance" p) [z, .Name c p2] [] pos) (SemE X.K fun env st => bnd (f0 env st) fun x s => ret (xisD own zn ys x) s) := by
  have s1 := star1 nz [.Name c p2] X.env
  have pa : PA X [z, .Name c p2] (tCons (SemB X.K f0) (tCons (tC cV) tNil)) := pa_cons hz (pa_cons pc pa_nil rfl) s1
  refine peImp (pe_callB Pk.call_isV hg hm (by decide +kernel) pa (by decide +kernel) (by decide +kernel) s1 rfl) fun σ H Q ⟨M, U, st, env, w, s, er, ex, q⟩ => ?_
  obtain ⟨u, s2, e1, ex⟩ := bnd_eq ex
  obtain ⟨e2, rfl⟩ := ret_eq ex
  unfold xisD at e2
  split at e2
  · rename_i m g y
    obtain ⟨hc, e3⟩ := dec2' e2
    cases e3
    have hm' : (m, g) ∈ xs := hys _ (by simpa using hc)
    refine ⟨M, U, st, env, _, _, er, e1, fun v H1 M1 p1 so1 r1 => ?_⟩
    obtain ⟨a, C, dd, w, rfl, c1, h1, h2, r⟩ := xn_at r1.w
    obtain ⟨Ca, c2, T⟩ := xc.cls m g hm'
    rw [c1] at c2
    cases c2
    exact ⟨C, a, dd, _, _, cv, _, T.ex, rfl, h1, h2, hcv, hk m g C hm' c1, q _ _ M1 p1 so1 (.bl _)⟩
  · cases e2
theorem base_ofX {o : Expr} (h : plainX o = true) (m : Str) (env : Env) (w : Sem Value) : attributeBase o m env w = w := by
  cases o with
  | Call f as kw p =>
    cases as with
    | nil =>
      cases kw with
      | nil => cases h
      | cons a as => cases f <;> rfl
    | cons a as => cases f <;> rfl
  | _ => rfl
theorem se_xfd {f0 : Ev → Sto → Option (D × Sto)} {ys : List (Str × Str)} (xc : XcOk xs cf X.K X.mg X.A) (hys : ∀ q ∈ ys, q ∈ xs) (pz : plainX z = true) (hz : PE X z (SemB X.K f0)) :
    PE X (.Attribute z f pos) (SemE X.K fun env st => bnd (f0 env st) fun x s => ret (xfdD ys f x) s) := by
  refine peImp (Pk.pe_xfV hz (base_ofX pz f X.env _)) fun σ H Q ⟨M, U, st, env, w, s, er, ex, q⟩ => ?_
  obtain ⟨u, s2, e1, ex⟩ := bnd_eq ex
  obtain ⟨e2, rfl⟩ := ret_eq ex
  unfold xfdD at e2
  split at e2
  · rename_i m g y
    obtain ⟨hc, e3⟩ := dec2' e2
    cases e3
    rw [Bool.and_eq_true] at hc
    have hm' : (m, g) ∈ xs := hys _ (by simpa using hc.2)
    obtain rfl : g = f := by simpa using hc.1
    refine ⟨M, U, st, env, _, _, er, e1, fun v H1 M1 p1 so1 r1 => ?_⟩
    obtain ⟨a, C, dd, w, rfl, c1, h1, h2, r⟩ := xn_at r1.w
    obtain ⟨Ca, c2, T⟩ := xc.cls m g hm'
    rw [c1] at c2
    cases c2
    exact ⟨a, C, dd, _, w, rfl, T.xf, T.no, h1, h2, by simp [List.lookup], q _ _ M1 p1 so1 r⟩
  · cases e2
end
end Pi

end
section
set_option Elab.async false
set_option linter.all false
set_option maxRecDepth 100000
set_option maxHeartbeats 1000000
namespace Pi
open PySem PySem.Spec PyProof.Rows L2
structure XOk (C : Ck) (gl : Nat → Option D) (cf : Cf) (X : Cx) (sc rs : Scope) : Prop where
  calm : X.calm = true
  nd : X.N.Nodup
  N : X.N = C.N
  sc : X.env.scope = sc
  fn : ∀ x, (rs.names.lookup x == some .cell) = true → X.fn x = true
  un : X.A.units + 66 < cLine
  blt : ∀ x, C.bl.contains x = true → X.mg x = none
  con : ∀ i x, C.gs[i]? = some x → ∃ d v u, gl i = some d ∧ X.mg x = some u ∧ RelV v u ∧ ∀ B H, Rp X.K B H v d
  fns : ∀ i nm n, C.fs[i]? = some (nm, n) → ∃ k fa fd ps, ps.length = n ∧ FnOk X.prog X.w X.K X.mg X.base CX0 k fa fd ps (spF X.K (cf i) ps.length) ∧ Room k X.A ∧ X.mg nm = some (.ref fa) ∧ PySem.W.keepIn X.K (.ref fa) = true ∧ Binds X.K fd ps [] ∧
    (∀ ws st r, cf i ws st = some r → ws.length = ps.length) ∧ ∀ m ks pm, (i, m, ks, pm) ∈ C.kw → KwOk X.K fd ps m ks pm
  xc : XcOk C.xs cf X.K X.mg X.A
  fnt : ∀ i nm n, C.fs[i]? = some (nm, n) → C.kt.contains i = true → ∃ k fa fd ps, ps.length = n ∧ FnOk X.prog X.w X.K X.mg X.base CX0 k fa fd ps (spT X.K (cf i) ps.length) ∧ Room k X.A ∧ X.mg nm = some (.ref fa) ∧ PySem.W.keepIn X.K (.ref fa) = true ∧ Binds X.K fd ps [] ∧
    ∀ ws st r, cf i ws st = some r → ws.length = ps.length
section
variable {C : Ck} {gl : Nat → Option D} {cf : Cf} {X : Cx} {sc rs : Scope}
theorem XOk.blk (ok : XOk C gl cf X sc rs) (s : Shared) (H : Hp) (scope : Scope) (Cd : Addr) (cl : List (Str × Addr)) (fp : List Addr) : XOk C gl cf (X.blk s H scope (compEnvC scope cl Cd X.env) fp) (relS scope sc) scope :=
  ⟨ok.calm, ok.nd, ok.N, by rw [← ok.sc]; rfl, fun _ h => h, ok.un, ok.blt, ok.con, ok.fns, ok.xc, ok.fnt⟩
theorem XOk.u64 (ok : XOk C gl cf X sc rs) : X.A.units + 64 < cLine := by have := ok.un; omega
theorem gl_of (ok : XOk C gl cf X sc rs) {x : Str} (h : glB sc x = true) : Gl X x := by
  show X.env.scope.names.lookup x = _
  rw [ok.sc]
  exact of_decide_eq_true (by simpa [glB] using h)
theorem vis_of (ok : XOk C gl cf X sc rs) {x : Str} (h : visB sc x = true) : Vis X.env.scope x := by
  rw [ok.sc]
  unfold visB at h
  unfold Vis
  split at h
  · exact .inl ‹_›
  · exact .inr (.inl ‹_›)
  · exact .inr (.inr ‹_›)
  · cases h
theorem nm_of {x : Str} (h : nmB x = true) : (x == ("__debug__" : Str)) = false ∧ (x == ("__classdict__" : Str)) = false := by
  unfold nmB at h
  simpa using h
theorem st_of' (ok : XOk C gl cf X sc rs) {x : Str} (h : stB sc rs x = true) : StN X x := by
  unfold StN L2.Loc
  rw [ok.sc]
  unfold stB at h
  split at h
  · rename_i e; rw [e]; exact ⟨.inl rfl, .inr rfl⟩
  · rename_i e; rw [e]; exact ⟨.inr rfl, .inl (ok.fn _ h)⟩
  · cases h
theorem blt_of (ok : XOk C gl cf X sc rs) {x : Str} (h : bltB C sc x = true) : Gl X x ∧ X.mg x = none := by
  unfold bltB at h
  rw [Bool.and_eq_true] at h
  exact ⟨gl_of ok h.1, ok.blt x h.2⟩
theorem nth_of (ok : XOk C gl cf X sc rs) {i : Nat} {x : Str} (h : (C.N[i]? == some x) = true) : X.N[i]? = some x := by
  rw [ok.N]
  simpa using h
mutual
theorem chkT_ok (ok : XOk C gl cf X sc rs) : ∀ (t : Tg) (x : Expr), chkT C sc rs t x = true → TgX X.N (StN X) t x
  | .n i, x, h => by
    unfold chkT at h
    split at h
    · rw [Bool.and_eq_true] at h
      exact .n (nth_of ok h.1) (st_of' ok h.2)
    · cases h
  | .t ts, x, h => by
    unfold chkT at h
    split at h
    · exact .t (chkTs_ok ok ts _ h)
    · cases h
theorem chkTs_ok (ok : XOk C gl cf X sc rs) : ∀ (t : Tgs) (x : List Expr), chkTs C sc rs t x = true → TgsX X.N (StN X) t x
  | .nil, l, h => by
    cases l with
    | nil => exact .nil
    | cons a b => cases h
  | .cons t ts, l, h => by
    cases l with
    | nil => cases h
    | cons a b =>
      have h : (chkT C sc rs t a && chkTs C sc rs ts b) = true := h
      rw [Bool.and_eq_true] at h
      exact .cons (chkT_ok ok t a h.1) (chkTs_ok ok ts b h.2)
end
theorem tys_of (ok : XOk C gl cf X sc rs) : ∀ (ts : List Ty) (l : List Expr), tysB C sc ts l = true → Tys X ts l
  | [], l, h => by
    cases l with
    | nil => exact .nil
    | cons a b => cases h
  | t :: ts, l, h => by
    unfold tysB at h
    split at h
    · simp only [Bool.and_eq_true, beq_iff_eq] at h
      obtain ⟨⟨rfl, h2⟩, h3⟩ := h
      exact .cons (blt_of ok h2).1 (blt_of ok h2).2 (tys_of ok ts _ h3)
    · cases h
theorem blk_of (ok : XOk C gl cf X sc rs) {scope : Scope} {vs : List Nat} (h : blkB C sc scope vs = true) : BlkOk X.N X.env.scope scope (ownOf C.N vs) ∧ (ownOf C.N vs).map (·.2) = vs := by
  unfold blkB at h
  simp only [Bool.and_eq_true, decide_eq_true_eq, List.all_eq_true] at h
  obtain ⟨⟨h1, h2⟩, h3⟩ := h
  refine ⟨⟨h1, fun y hy => ?_, fun p hp => ?_, fun y hy e => ?_, fun y hy e => ?_⟩, ?_⟩
  · have := (h2 y hy).1.1
    simpa using this
  · obtain ⟨i, hi, rfl⟩ := List.mem_map.mp hp
    rw [ok.N]
    show C.N[i]? = some (C.N.getD i "")
    rw [List.getD_eq_getElem?_getD, List.getElem?_eq_getElem (h3 i hi)]; rfl
  · have := (h2 y hy).1.2
    rw [ok.sc]
    rw [e] at this
    simpa using this
  · have := (h2 y hy).2
    have ha : (vs.any (fun i => C.N[i]? == some y.1) || !(C.N.contains y.1)) = true := by
      rcases e with e | e <;> (rw [e] at this; simpa using this)
    rw [Bool.or_eq_true] at ha
    rcases ha with ha | ha
    · left
      obtain ⟨i, hi, e2⟩ := List.any_eq_true.mp ha
      have e2 : C.N[i]? = some y.1 := by simpa using e2
      refine List.mem_map.mpr ⟨(y.1, i), List.mem_map.mpr ⟨i, hi, ?_⟩, rfl⟩
      rw [List.getD_eq_getElem?_getD, e2]; rfl
    · right
      rw [ok.N]
      simpa using ha
  · unfold ownOf
    rw [List.map_map]
    show vs.map (fun i => i) = vs
    simp
def esLen : Es → Nat
  | .nil => 0
  | .cons _ es => esLen es + 1
  | .star _ es => esLen es + 1
theorem chkEs_len : ∀ (es : Es) (l : List Expr), chkEs C es sc rs l = true → l.length = esLen es ∧ ∀ a ∈ l, nice a = true
  | .nil, l, h => by
    cases l with
    | nil => exact ⟨rfl, fun _ z => nomatch z⟩
    | cons a b => cases h
  | .cons e es, l, h => by
    cases l with
    | nil => cases h
    | cons a b =>
      have h : (nice a && chkE C e sc rs a && chkEs C es sc rs b) = true := h
      simp only [Bool.and_eq_true] at h
      obtain ⟨h1, h2⟩ := chkEs_len es b h.2
      refine ⟨congrArg (· + 1) h1, fun c hc => ?_⟩
      rcases List.mem_cons.mp hc with rfl | hc
      · exact h.1.1
      · exact h2 c hc
  | .star e es, l, h => by cases h
theorem sl_star {e : Expr} {es : List Expr} {p : Pos} {f : Ev → Sto → Option (D × Sto)} {g : Ev → Sto → Option (List D × Sto)} (he : PE X e (SemB X.K f)) (hes : PA X es (SemL X.K g)) :
    PA X (.Starred e p :: es) (SemL X.K fun env st => bnd (f env st) fun x s => bnd (ret (items x) s) fun xs s1 => bnd (g env s1) fun ys s2 => some (xs ++ ys, s2)) := paImp (StX.pa_star he hes) fun σ H Q ⟨M, U, st, env, w, s, er, ex, q⟩ => by
  obtain ⟨x, s1, e1, x1⟩ := bnd_eq ex
  obtain ⟨xs, s2, e2, x2⟩ := bnd_eq x1
  obtain ⟨e4, e5⟩ := ret_eq e2
  obtain ⟨ys, s3, e3, x3⟩ := bnd_eq (show bnd (g env s2) (fun ys s2 => some (xs ++ ys, s2)) = some (w, s) from x2)
  have x3 : some (xs ++ ys, s3) = some (w, s) := x3
  rw [← e5] at e3
  cases x3
  refine ⟨M, U, st, env, x, s1, er, e1, fun v H1 M1 p1 so1 r1 => ?_⟩
  obtain ⟨t, a, vs, rfl, ha, ra, la⟩ := r1.seqL so1 e4
  refine ⟨a, vs, rfl, ?_, M1, U, s1, env, ys, _, er.step p1 so1, e3, fun us H2 M2 p2 so2 r2 => q _ H2 M2 (p1.trans p2) so2 ((ra.step p2).append r2)⟩
  cases t
  · exact .inr ha
  · exact .inl ha
theorem bnd_assoc {α β γ : Type} (a : Option (α × Sto)) (f : α → Sto → Option (β × Sto)) (g : β → Sto → Option (γ × Sto)) : bnd (bnd a f) g = bnd a fun x s => bnd (f x s) g := by cases a <;> rfl
theorem addS_cons (f : Ev → Sto → Option (Vl × Sto)) (g : Ev → Sto → Option (List Vl × Sto)) (b : Ev → Sto → Option (D × Sto)) : (fun env st => bnd (f env st) fun x s => bnd (addS g b env s) fun xs s' => some (argV x :: xs, s')) = addS (fun env st => bnd (f env st) fun x s => bnd (g env s) fun xs s' => some (argV x :: xs, s')) b := by
  funext env st
  unfold addS
  simp only [bnd_assoc, bnd_some, List.cons_append]
theorem sa_star1 {e : Expr} {p : Pos} {b : Ev → Sto → Option (D × Sto)} (he : PE X e (SemB X.K b)) : PA X [.Starred e p] (SemA X.K (addS (fun _ st => some ([], st)) b)) := paImp (StX.pa_star he pa_nil) fun σ H Q ⟨M, U, st, env, w, s, er, ex, q⟩ => by
  obtain ⟨ws0, s0, e0, x0⟩ := bnd_eq ex
  cases e0
  obtain ⟨x, s1, e1, x1⟩ := bnd_eq x0
  obtain ⟨xs, s2, e2, x2⟩ := bnd_eq x1
  obtain ⟨e4, e5⟩ := ret_eq e2
  have x2 : some ([] ++ xs.map Vl.d, s2) = some (w, s) := x2
  cases x2
  subst e5
  refine ⟨M, U, st, env, x, s1, er, e1, fun v H1 M1 p1 so1 r1 => ?_⟩
  obtain ⟨t, a, vs, rfl, ha, ra, la⟩ := r1.seqL so1 e4
  refine ⟨a, vs, rfl, ?_, q _ H1 M1 p1 so1 (by rw [List.append_nil]; exact vs_of_rp ra)⟩
  cases t
  · exact .inr ha
  · exact .inl ha
theorem sndB (ok : XOk C gl cf X sc rs) {e : E} {x : Expr} (h : chkE C e sc rs x = true) (he : PE X x (SemE X.K (ev gl cf e))) : PE X x (SemB X.K fun env st => bor e (ev gl cf e env st) env st) := by
  cases e with
  | v i =>
    unfold chkE at h
    split at h
    · simp only [Bool.and_eq_true] at h
      obtain ⟨⟨h1, h2⟩, h3⟩ := h
      exact sb_var (r := none) (nth_of ok h1) (vis_of ok h2) (nm_of h3).1 (nm_of h3).2
    · cases h
  | _ => exact semB_of (semD_of he)
theorem sndB0 {z : L2.St → Ev → Addr → Prop} {e : E} {x : Expr} (h : isV e = false) (he : PE X x (SemE X.K (ev gl cf e))) : PE X x (SemBZ z X.K fun env st => bor e (ev gl cf e env st) env st) := by
  cases e with
  | v i => cases h
  | _ => exact semB_of (semD_of he)
end
end Pi

end
section
set_option Elab.async false
set_option linter.all false
set_option maxRecDepth 100000
set_option maxHeartbeats 4000000
namespace Pi
open PySem PySem.Spec PyProof.Rows L2
theorem iBoth {X : Cx} {tg x : Expr} {z : L2.St → Ev → Addr → Prop} {g : Ev → Sto → Option (List D × Sto)} {b : Bool} (h : PI X tg x (SemIZ z X.K g)) : (b = false → PI X tg x (SemIZ z X.K g)) ∧ PI X tg x (SemIL z X g) := ⟨fun _ => h, si_weak h⟩
section
variable {C : Ck} {gl : Nat → Option D} {cf : Cf}
theorem bor_of {e : E} {env : Ev} {st : Sto} {r : D × Sto} (h : toD (ev gl cf e env st) = some r) : bor e (ev gl cf e env st) env st = some r := by
  cases e with
  | v i =>
    show (match look env i with | .sh x => some (x, st) | .ow x => some (x, st) | .lk x => some (x, st) | _ => none) = some r
    have h : toD (match look env i with | .sh x => some (.d x, st) | .rf n => some (.rf n, st) | _ => none) = some r := h
    cases hl : look env i with
    | sh x => rw [hl] at h; exact h
    | no => rw [hl] at h; cases h
    | kt x => rw [hl] at h; cases h
    | ow x => rw [hl] at h; cases h
    | lk x => rw [hl] at h; cases h
    | rf n => rw [hl] at h; cases h
  | _ => exact h
theorem tru_of {f : Option (D × Sto)} {x : D} {s s2 : Sto} {k : Bool} (h : f = some (x, s)) (g : ret (truD x) s = some (k, s2)) : tru f = some (k, s2) := by
  rw [h]; exact g
theorem tru_bor {e : E} {env : Ev} {st : Sto} {k : Bool} {s : Sto} (h : tru (toD (ev gl cf e env st)) = some (k, s)) : tru (bor e (ev gl cf e env st) env st) = some (k, s) := by
  obtain ⟨x, s1, e1, e2⟩ := bnd_eq h
  exact tru_of (bor_of e1) e2
theorem opB_eq (b : Bop) : opB b = (match b with | .add => .Add | .sub => .Sub | .mul => .Mult | .fdiv => .FloorDiv | .mod => .Mod | .pow => .Pow) := by cases b <;> rfl
theorem opC_eq (c : Cop) : opC c = (match c with | .eq => .Eq | .ne => .NotEq | .lt => .Lt | .le => .LtE | .gt => .Gt | .ge => .GtE | .isin => .In | .notin => .NotIn) := by cases c <;> rfl
abbrev hB {X : Cx} (e : E) (x : Expr) : Prop := PE X x (SemB X.K fun env st => bor e (ev gl cf e env st) env st)
def isBo : E → Bool
  | .and .. => true
  | .or .. => true
  | _ => false
theorem chk_bo {e : E} {sc rs : Scope} {o : BoolOp} {l : List Expr} {p : Pos} (h : chkE C e sc rs (.BoolOp o l p) = true) : isBo e = true := by
  cases e <;> first | rfl | (unfold chkE at h; cases h)
abbrev TruE (gl : Nat → Option D) (cf : Cf) (K : PySem.W.Frag) (e : E) : TT := SemT K fun env st => tru (bor e (ev gl cf e env st) env st)
mutual
theorem sndE : ∀ (e : E) {X : Cx} {sc rs : Scope} {x : Expr}, XOk C gl cf X sc rs → chkE C e sc rs x = true → PE X x (SemE X.K (ev gl cf e))
  | .non, X, sc, rs, x, ok, h => by
    unfold chkE at h; split at h
    · exact se_const pe_non fun _ _ => .non
    · cases h
  | .bl b, X, sc, rs, x, ok, h => by
    unfold chkE at h; split at h
    · cases (beq_iff_eq.mp h)
      exact se_const pe_bl fun _ _ => .bl _
    · cases h
  | .int i, X, sc, rs, x, ok, h => by
    unfold chkE at h; split at h
    · cases (of_decide_eq_true h)
      exact se_const pe_int fun _ _ => .int _
    · cases h
  | .str s, X, sc, rs, x, ok, h => by
    unfold chkE at h; split at h
    · cases (of_decide_eq_true h)
      exact se_const pe_str fun _ _ => .str _
    · cases h
  | .v i, X, sc, rs, x, ok, h => by
    unfold chkE at h; split at h
    · simp only [Bool.and_eq_true] at h
      obtain ⟨⟨h1, h2⟩, h3⟩ := h
      exact se_var (nth_of ok h1) (vis_of ok h2) (nm_of h3).1 (nm_of h3).2
    · cases h
  | .g i, X, sc, rs, x, ok, h => by
    unfold chkE at h; split at h
    · simp only [Bool.and_eq_true] at h
      obtain ⟨⟨h1, h2⟩, h3⟩ := h
      obtain ⟨d, v, u, e1, e2, e3, e4⟩ := ok.con i _ (beq_iff_eq.mp h1)
      refine peImp (se_const (pe_glob (gl_of ok h2) e2 e3 (nm_of h3).1) e4) fun σ H Q ⟨M, U, st, env, w, s, er, ex, q⟩ => ⟨M, U, st, env, w, s, er, ?_, q⟩
      rw [← ex]
      show some (Vl.d d, st) = ret ((gl i).map Vl.d) st
      rw [e1]; rfl
    · cases h
  | .tup es, X, sc, rs, x, ok, h => by
    unfold chkE at h; split at h
    · exact se_tup (sndEl es ok h)
    · cases h
  | .lst es, X, sc, rs, x, ok, h => by
    unfold chkE at h; split at h
    · exact se_lst (sndEl es ok h)
    · cases h
  | .bin op a b, X, sc, rs, x, ok, h => by
    unfold chkE at h; split at h
    · simp only [Bool.and_eq_true, decide_eq_true_eq] at h
      obtain ⟨⟨h1, h2⟩, h3⟩ := h
      exact se_bin (h1.trans (opB_eq op)) (sndB ok h2 (sndE a ok h2)) (sndB ok h3 (sndE b ok h3))
    · cases h
  | .neg a, X, sc, rs, x, ok, h => by
    unfold chkE at h; split at h
    · exact se_neg (sndB ok h (sndE a ok h))
    · cases h
  | .cmp op a b, X, sc, rs, x, ok, h => by
    unfold chkE at h; split at h
    · simp only [Bool.and_eq_true, decide_eq_true_eq] at h
      obtain ⟨⟨⟨h1, hn⟩, h2⟩, h3⟩ := h
      exact se_cmp (h1.trans (opC_eq op)) ok.u64 hn (sndB ok h2 (sndE a ok h2)) (sndB ok h3 (sndE b ok h3))
    · cases h
  | .isN a, X, sc, rs, x, ok, h => by
    unfold chkE at h; split at h
    · exact se_isN (sndB ok h (sndE a ok h))
    · cases h
  | .isnN a, X, sc, rs, x, ok, h => by
    unfold chkE at h; split at h
    · exact se_isnN (sndB ok h (sndE a ok h))
    · cases h
  | .and a b, X, sc, rs, x, ok, h => by
    unfold chkE at h; split at h
    · simp only [Bool.and_eq_true] at h
      exact se_and (semD_of (sndE a ok h.1)) (se_one (sndE b ok h.2))
    · simp only [Bool.and_eq_true] at h
      exact se_and (semD_of (sndE a ok h.1)) (sndE b ok h.2)
    · cases h
  | .or a b, X, sc, rs, x, ok, h => by
    unfold chkE at h; split at h
    · simp only [Bool.and_eq_true] at h
      exact se_or (sndE a ok h.1) (se_one (sndE b ok h.2))
    · simp only [Bool.and_eq_true] at h
      exact se_or (sndE a ok h.1) (sndE b ok h.2)
    · cases h
  | .not a, X, sc, rs, x, ok, h => by
    unfold chkE at h; split at h
    · exact se_not (sndB ok h (sndE a ok h))
    · cases h
  | .ite c a b, X, sc, rs, x, ok, h => by
    unfold chkE at h; split at h
    · simp only [Bool.and_eq_true] at h
      obtain ⟨⟨⟨h1, h2⟩, h3⟩, h4⟩ := h
      exact se_ite (sndT c ok h1 h2 (sndE c ok h2)).1 (sndE a ok h3) (sndE b ok h4)
    · cases h
  | .ix a i, X, sc, rs, x, ok, h => by
    unfold chkE at h; split at h
    · simp only [Bool.and_eq_true] at h
      obtain ⟨⟨h1, h2⟩, h3⟩ := h
      exact se_ix (by have := ok.un; omega) h1 (sndB ok h2 (sndE a ok h2)) (sndB ok h3 (sndE i ok h3))
    · cases h
  | .bx i k, X, sc, rs, x, ok, h => by
    unfold chkE at h; split at h
    · simp only [Bool.and_eq_true] at h
      obtain ⟨⟨⟨⟨h1, h2⟩, h3⟩, h4⟩, h5⟩ := h
      exact se_bx (nth_of ok h1) (vis_of ok h2) (nm_of h3).1 (nm_of h3).2 h4 (sndB ok h5 (sndE k ok h5))
    · cases h
  | .sl a lo hi, X, sc, rs, x, ok, h => by
    unfold chkE at h; split at h
    · simp only [Bool.and_eq_true] at h
      obtain ⟨⟨h1, h2⟩, h3⟩ := h
      exact se_sl (sndB ok h1 (sndE a ok h1)) (sndO lo ok h2) (sndO hi ok h3)
    · cases h
  | .exn n f a, X, sc, rs, x, ok, h => by
    unfold chkE at h; split at h
    · simp only [Bool.and_eq_true, decide_eq_true_eq] at h
      obtain ⟨⟨⟨⟨⟨rfl, h2⟩, h3⟩, h4⟩, h5⟩, h6⟩ := h
      exact se_exn ok.xc h2 h3 (gl_of ok h4) h5 (sndE a ok h6)
    · cases h
  | .exk n f a, X, sc, rs, x, ok, h => by
    unfold chkE at h; split at h
    · simp only [Bool.and_eq_true, decide_eq_true_eq] at h
      obtain ⟨⟨⟨⟨⟨rfl, rfl⟩, h2⟩, h3⟩, h4⟩, h6⟩ := h
      exact se_exk ok.xc h2 h3 (gl_of ok h4) (sndE a ok h6)
    · cases h
  | .exz n f, X, sc, rs, x, ok, h => by
    unfold chkE at h; split at h
    · simp only [Bool.and_eq_true, decide_eq_true_eq] at h
      obtain ⟨⟨⟨rfl, h2⟩, h3⟩, h4⟩ := h
      exact se_exz ok.xc h2 h3 (gl_of ok h4)
    · cases h
  | .xis own z xs a, X, sc, rs, x, ok, h => by
    unfold chkE at h; split at h
    · rename_i u up y c cp pos
      simp only [Bool.and_eq_true, decide_eq_true_eq] at h
      obtain ⟨⟨⟨⟨⟨⟨rfl, h1⟩, h2⟩, h3⟩, rfl⟩, h4⟩, h5⟩ := h
      have hys : ∀ q ∈ xs, q ∈ C.xs := fun q hq => by simpa using List.all_eq_true.mp h3 q hq
      cases own with
      | true =>
        rw [if_pos rfl, Bool.and_eq_true] at h4
        obtain ⟨⟨c2, f2⟩, hc, he⟩ := List.any_eq_true.mp h4.2
        obtain rfl : c2 = c := by simpa using he
        obtain ⟨Cb, hb, Tb⟩ := ok.xc.cls _ _ hc
        exact se_xis (cV := .ref Cb) (cv := .ref Cb) ok.xc hys (blt_of ok h1).1 (blt_of ok h1).2 h2 (sndB ok h5 (sndE a ok h5)) (pe_glob (gl_of ok h4.1) Tb.mgc rfl Tb.db) (fun u h => h) fun n f Ca hm hn => by
          rw [ok.xc.one _ _ _ _ _ _ hm hc hn hb]; rfl
      | false =>
        rw [if_neg (by decide)] at h4
        simp only [Bool.or_eq_true, Bool.and_eq_true, decide_eq_true_eq] at h4
        rcases h4 with ⟨rfl, h4⟩ | ⟨⟨rfl, h4⟩, hne⟩
        · exact se_xis (cV := .ty "ValueError") (cv := .type "ValueError") ok.xc hys (blt_of ok h1).1 (blt_of ok h1).2 h2 (sndB ok h5 (sndE a ok h5)) (pe_bltn (u := .type "ValueError") (blt_of ok h4).1 (blt_of ok h4).2 (by decide +kernel) rfl (by decide +kernel) (by decide +kernel)) (fun u h => h) fun n f Ca hm hn => by
            obtain ⟨Cb, hb, Tb⟩ := ok.xc.cls _ _ hm
            rw [hn] at hb; cases hb
            exact Tb.ve
        · cases hx : C.xs with
          | nil => rw [hx] at hne; cases hne
          | cons q0 r0 =>
          obtain ⟨Cq, hq, Tq⟩ := ok.xc.cls q0.1 q0.2 (by rw [hx]; exact List.mem_cons_self)
          obtain ⟨Cb, h6, h7⟩ := Tq.re
          exact se_xis (cV := .ref Cb) (cv := .ref Cb) ok.xc hys (blt_of ok h1).1 (blt_of ok h1).2 h2 (sndB ok h5 (sndE a ok h5)) (pe_glob (gl_of ok h4) h6 rfl (by decide +kernel)) (fun u h => h) fun n f Ca hm hn => by
            obtain ⟨Cc, hc, Tc⟩ := ok.xc.cls _ _ hm
            rw [hn] at hc; cases hc
            obtain ⟨Cb2, h8, h9⟩ := Tc.re
            rw [h6] at h8; cases h8
            exact h9
    · cases h
  | .xfd f xs a, X, sc, rs, x, ok, h => by
    unfold chkE at h; split at h
    · simp only [Bool.and_eq_true, decide_eq_true_eq] at h
      obtain ⟨⟨⟨rfl, h2⟩, h3⟩, h4⟩ := h
      exact se_xfd ok.xc (fun q hq => by simpa using List.all_eq_true.mp h3 q hq) h2 (sndB ok h4 (sndE a ok h4))
    · cases h
  | .call f es, X, sc, rs, x, ok, h => by
    unfold chkE at h; split at h
    · simp only [Bool.and_eq_true] at h
      obtain ⟨⟨⟨h1, h2⟩, h3⟩, h4⟩ := h
      obtain ⟨k, fa, fd, ps, hl, F, hr, hm, hk, hb, np, hkw⟩ := ok.fns f _ _ (beq_iff_eq.mp h1)
      cases es with
      | nil =>
        rename_i y0 p0 l q0
        cases l with
        | nil => exact se_call0 F hr (gl_of ok h2) hm hk hb np (nm_of h3).1
        | cons a b => cases h4
      | cons e es =>
        rename_i y0 p0 l q0
        cases l with
        | nil => cases h4
        | cons a b => exact se_call F hr (gl_of ok h2) hm hk hb np (nm_of h3).1 (chkEs_len _ _ h4).2 (sndA (.cons e es) ok h4)
      | star e es => cases h4
    · cases h
  | .f1 f a, X, sc, rs, x, ok, h => by
    unfold chkE at h; split at h
    · simp only [Bool.and_eq_true, decide_eq_true_eq] at h
      obtain ⟨⟨rfl, h2⟩, h3⟩ := h
      split at h3
      · rename_i hf
        split at h3
        · simp only [Bool.and_eq_true, decide_eq_true_eq] at h3
          obtain ⟨⟨⟨rfl, h4⟩, h5⟩, h6⟩ := h3
          rcases hf with rfl | rfl
          · exact pe_sset ok.calm ok.u64 (blt_of ok h2).1 (blt_of ok h2).2 (blt_of ok h4).1 (blt_of ok h4).2 (sndB ok h6 (sndE a ok h6)) (star1 h5 [] _)
          · exact pe_lset ok.calm ok.u64 (blt_of ok h2).1 (blt_of ok h2).2 (blt_of ok h4).1 (blt_of ok h4).2 (sndB ok h6 (sndE a ok h6)) (star1 h5 [] _)
        · cases h3
      · rename_i hf
        simp only [Bool.and_eq_true] at h3
        exact pe_f1 ok.calm ok.u64 (blt_of ok h2).1 (blt_of ok h2).2 (sndB ok h3.2 (sndE a ok h3.2)) (star1 h3.1 [] _) ⟨fun z => hf (.inl z), fun z => hf (.inr z)⟩
    · cases h
  | .f2 f a b, X, sc, rs, x, ok, h => by
    unfold chkE at h; split at h
    · simp only [Bool.and_eq_true, decide_eq_true_eq] at h
      obtain ⟨⟨⟨⟨⟨rfl, h2⟩, h3⟩, h4⟩, h5⟩, h6⟩ := h
      exact se_f2 ok.calm (blt_of ok h2).1 (blt_of ok h2).2 h3 h4 (sndB ok h5 (sndE a ok h5)) (sndB ok h6 (sndE b ok h6))
    · cases h
  | .dnew t, X, sc, rs, x, ok, h => by
    unfold chkE at h; split at h
    · exact se_dnew
    · cases h
  | .isi a ts, X, sc, rs, x, ok, h => by
    unfold chkE at h; split at h
    · simp only [Bool.and_eq_true, decide_eq_true_eq] at h
      obtain ⟨⟨⟨⟨⟨rfl, h2⟩, h3⟩, h4⟩, h5⟩, h6⟩ := h
      obtain ⟨t, rfl⟩ : ∃ t, ts = [t] := List.length_eq_one_iff.mp h4
      have := tys_of ok _ _ h5
      cases this with
      | cons g m _ => exact se_isi1 (blt_of ok h2).1 (blt_of ok h2).2 g m h3 (sndB ok h6 (sndE a ok h6))
    · simp only [Bool.and_eq_true, decide_eq_true_eq] at h
      obtain ⟨⟨⟨⟨⟨rfl, h2⟩, h3⟩, h4⟩, h5⟩, h6⟩ := h
      exact se_isiT (blt_of ok h2).1 (blt_of ok h2).2 (tys_of ok _ _ h5) h4 h3 (sndB ok h6 (sndE a ok h6))
    · cases h
  | .lc vs e t it c, X, sc, rs, x, ok, h => by
    unfold chkE at h; split at h
    · simp only [Bool.and_eq_true, List.all_eq_true] at h
      obtain ⟨⟨⟨⟨⟨⟨h1, h2⟩, h3⟩, h4⟩, h5⟩, h6⟩, h7⟩ := h
      obtain ⟨b1, b2⟩ := blk_of ok h1
      exact se_lc ok.calm ok.nd (sndI it OwV (.inl rfl) ok h5).2 b1 b2 (fun i hi => by simpa using h2 i hi)
        (fun s H Cd cl fp => pg_T (ok.blk s H _ Cd cl fp).calm (ok.blk s H _ Cd cl fp).nd (chkT_ok (ok.blk s H _ Cd cl fp) t _ h4))
        (fun s H Cd cl fp => sndC c (ok.blk s H _ Cd cl fp) h6)
        (fun s H Cd cl fp => semD_of (sndE e (ok.blk s H _ Cd cl fp) h7)) h3
    · cases h
theorem sndT : ∀ (e : E) {X : Cx} {sc rs : Scope} {x : Expr}, XOk C gl cf X sc rs → noIt e = true → chkE C e sc rs x = true → PE X x (SemE X.K (ev gl cf e)) → PT X x (TruE gl cf X.K e) ∧ (isBo e = true → PW X x (TruE gl cf X.K e))
  | .cmp op a b, X, sc, rs, x, ok, n, h, he => by
    unfold chkE at h; split at h
    · simp only [Bool.and_eq_true, decide_eq_true_eq] at h
      obtain ⟨⟨⟨h1, hn⟩, h2⟩, h3⟩ := h
      exact ⟨st_cmp (h1.trans (opC_eq op)) ok.u64 hn (sndB ok h2 (sndE a ok h2)) (sndB ok h3 (sndE b ok h3)), fun z => nomatch z⟩
    · cases h
  | .isN a, X, sc, rs, x, ok, n, h, he => by
    unfold chkE at h; split at h
    · exact ⟨st_isN (sndB ok h (sndE a ok h)), fun z => nomatch z⟩
    · cases h
  | .isnN a, X, sc, rs, x, ok, n, h, he => by
    unfold chkE at h; split at h
    · exact ⟨st_isnN (sndB ok h (sndE a ok h)), fun z => nomatch z⟩
    · cases h
  | .not a, X, sc, rs, x, ok, n, h, he => by
    unfold chkE at h; split at h
    · exact ⟨st_not (sndT a ok n h (sndE a ok h)).1, fun z => nomatch z⟩
    · cases h
  | .and a b, X, sc, rs, x, ok, n, h, he => by
    have n : (noIt a && noIt b) = true := n
    rw [Bool.and_eq_true] at n
    have w : PW X x (TruE gl cf X.K (.and a b)) := by
      unfold chkE at h; split at h
      · simp only [Bool.and_eq_true] at h
        exact sw_and (fun env st y k s1 s2 e1 e2 => tru_of (bor_of e1) e2) (fun env st k s e => tru_bor e) (sndT a ok n.1 h.1 (sndE a ok h.1)).1 (pw_and1 (sndT b ok n.2 h.2 (sndE b ok h.2)).1)
      · simp only [Bool.and_eq_true] at h
        exact sw_and (fun env st y k s1 s2 e1 e2 => tru_of (bor_of e1) e2) (fun env st k s e => tru_bor e) (sndT a ok n.1 h.1 (sndE a ok h.1)).1 ((sndT b ok n.2 h.2 (sndE b ok h.2)).2 (chk_bo h.2))
      · cases h
    exact ⟨w.pt, fun _ => w⟩
  | .or a b, X, sc, rs, x, ok, n, h, he => by
    have n : (noIt a && noIt b) = true := n
    rw [Bool.and_eq_true] at n
    have w : PW X x (TruE gl cf X.K (.or a b)) := by
      unfold chkE at h; split at h
      · simp only [Bool.and_eq_true] at h
        exact sw_or (fun env st k s e => tru_bor e) (fun env st k s e => tru_bor e) (sndT a ok n.1 h.1 (sndE a ok h.1)).1 (pw_or1 (sndT b ok n.2 h.2 (sndE b ok h.2)).1)
      · simp only [Bool.and_eq_true] at h
        exact sw_or (fun env st k s e => tru_bor e) (fun env st k s e => tru_bor e) (sndT a ok n.1 h.1 (sndE a ok h.1)).1 ((sndT b ok n.2 h.2 (sndE b ok h.2)).2 (chk_bo h.2))
      · cases h
    exact ⟨w.pt, fun _ => w⟩
  | .ite c a b, X, sc, rs, x, ok, n, h, he => by
    cases n
  | .non, X, sc, rs, x, ok, n, h, he => by
    have hb := sndB ok h he
    unfold chkE at h; split at h
    · exact ⟨st_of hb fun _ => rfl, fun z => nomatch z⟩
    · cases h
  | .bl b, X, sc, rs, x, ok, n, h, he => by
    have hb := sndB ok h he
    unfold chkE at h; split at h
    · exact ⟨st_of hb fun _ => rfl, fun z => nomatch z⟩
    · cases h
  | .int i, X, sc, rs, x, ok, n, h, he => by
    have hb := sndB ok h he
    unfold chkE at h; split at h
    · exact ⟨st_of hb fun _ => rfl, fun z => nomatch z⟩
    · cases h
  | .str s, X, sc, rs, x, ok, n, h, he => by
    have hb := sndB ok h he
    unfold chkE at h; split at h
    · exact ⟨st_of hb fun _ => rfl, fun z => nomatch z⟩
    · cases h
  | .v i, X, sc, rs, x, ok, n, h, he => by
    have hb := sndB ok h he
    unfold chkE at h; split at h
    · exact ⟨st_of hb fun _ => rfl, fun z => nomatch z⟩
    · cases h
  | .g i, X, sc, rs, x, ok, n, h, he => by
    have hb := sndB ok h he
    unfold chkE at h; split at h
    · exact ⟨st_of hb fun _ => rfl, fun z => nomatch z⟩
    · cases h
  | .tup es, X, sc, rs, x, ok, n, h, he => by
    have hb := sndB ok h he
    unfold chkE at h; split at h
    · exact ⟨st_of hb fun _ => rfl, fun z => nomatch z⟩
    · cases h
  | .lst es, X, sc, rs, x, ok, n, h, he => by
    have hb := sndB ok h he
    unfold chkE at h; split at h
    · exact ⟨st_of hb fun _ => rfl, fun z => nomatch z⟩
    · cases h
  | .bin op a b, X, sc, rs, x, ok, n, h, he => by
    have hb := sndB ok h he
    unfold chkE at h; split at h
    · exact ⟨st_of hb fun _ => rfl, fun z => nomatch z⟩
    · cases h
  | .neg a, X, sc, rs, x, ok, n, h, he => by
    have hb := sndB ok h he
    unfold chkE at h; split at h
    · exact ⟨st_of hb fun _ => rfl, fun z => nomatch z⟩
    · cases h
  | .ix a i, X, sc, rs, x, ok, n, h, he => by
    have hb := sndB ok h he
    unfold chkE at h; split at h
    · exact ⟨st_of hb fun _ => rfl, fun z => nomatch z⟩
    · cases h
  | .bx i k, X, sc, rs, x, ok, n, h, he => by
    have hb := sndB ok h he
    unfold chkE at h; split at h
    · exact ⟨st_of hb fun _ => rfl, fun z => nomatch z⟩
    · cases h
  | .sl a lo hi, X, sc, rs, x, ok, n, h, he => by
    have hb := sndB ok h he
    unfold chkE at h; split at h
    · exact ⟨st_of hb fun _ => rfl, fun z => nomatch z⟩
    · cases h
  | .exn m f a, X, sc, rs, x, ok, n, h, he => by
    have hb := sndB ok h he
    unfold chkE at h; split at h
    · exact ⟨st_of hb fun _ => rfl, fun z => nomatch z⟩
    · cases h
  | .exk m f a, X, sc, rs, x, ok, n, h, he => by
    have hb := sndB ok h he
    unfold chkE at h; split at h
    · exact ⟨st_of hb fun _ => rfl, fun z => nomatch z⟩
    · cases h
  | .exz m f, X, sc, rs, x, ok, n, h, he => by
    have hb := sndB ok h he
    unfold chkE at h; split at h
    · exact ⟨st_of hb fun _ => rfl, fun z => nomatch z⟩
    · cases h
  | .xis own z xs a, X, sc, rs, x, ok, n, h, he => by
    have hb := sndB ok h he
    unfold chkE at h; split at h
    · exact ⟨st_of hb fun _ => rfl, fun z => nomatch z⟩
    · cases h
  | .xfd f xs a, X, sc, rs, x, ok, n, h, he => by
    have hb := sndB ok h he
    unfold chkE at h; split at h
    · exact ⟨st_of hb fun _ => rfl, fun z => nomatch z⟩
    · cases h
  | .call f es, X, sc, rs, x, ok, n, h, he => by
    have hb := sndB ok h he
    unfold chkE at h; split at h
    · exact ⟨st_of hb fun _ => rfl, fun z => nomatch z⟩
    · cases h
  | .f1 f a, X, sc, rs, x, ok, n, h, he => by
    have hb := sndB ok h he
    unfold chkE at h; split at h
    · exact ⟨st_of hb fun _ => rfl, fun z => nomatch z⟩
    · cases h
  | .f2 f a b, X, sc, rs, x, ok, n, h, he => by
    have hb := sndB ok h he
    unfold chkE at h; split at h
    · exact ⟨st_of hb fun _ => rfl, fun z => nomatch z⟩
    · cases h
  | .dnew t, X, sc, rs, x, ok, n, h, he => by
    have hb := sndB ok h he
    unfold chkE at h; split at h
    · exact ⟨st_of hb fun _ => rfl, fun z => nomatch z⟩
    · cases h
  | .isi a ts, X, sc, rs, x, ok, n, h, he => by
    have hb := sndB ok h he
    unfold chkE at h; split at h
    · exact ⟨st_of hb fun _ => rfl, fun z => nomatch z⟩
    · exact ⟨st_of hb fun _ => rfl, fun z => nomatch z⟩
    · cases h
  | .lc vs e t it c, X, sc, rs, x, ok, n, h, he => by
    have hb := sndB ok h he
    unfold chkE at h; split at h
    · exact ⟨st_of hb fun _ => rfl, fun z => nomatch z⟩
    · cases h
theorem sndL : ∀ (es : Es) {X : Cx} {sc rs : Scope} {l : List Expr}, XOk C gl cf X sc rs → chkEs C es sc rs l = true → PA X l (SemL X.K (evs gl cf es))
  | .nil, X, sc, rs, l, ok, h => by
    cases l with
    | nil => exact sl_nil
    | cons a b => cases h
  | .cons e es, X, sc, rs, l, ok, h => by
    cases l with
    | nil => cases h
    | cons a b =>
      have h : (nice a && chkE C e sc rs a && chkEs C es sc rs b) = true := h
      simp only [Bool.and_eq_true] at h
      exact sl_cons h.1.1 (semD_of (sndE e ok h.1.2)) (sndL es ok h.2)
  | .star e es, X, sc, rs, l, ok, h => by cases h
theorem sndEl : ∀ (es : Es) {X : Cx} {sc rs : Scope} {l : List Expr}, XOk C gl cf X sc rs → chkEl C es sc rs l = true → PA X l (SemL X.K (evs gl cf es))
  | .nil, X, sc, rs, l, ok, h => by
    cases l with
    | nil => exact sl_nil
    | cons a b => cases h
  | .cons e es, X, sc, rs, l, ok, h => by
    cases l with
    | nil => cases h
    | cons a b =>
      have h : (nice a && chkE C e sc rs a && chkEl C es sc rs b) = true := h
      simp only [Bool.and_eq_true] at h
      exact sl_cons h.1.1 (semD_of (sndE e ok h.1.2)) (sndEl es ok h.2)
  | .star e es, X, sc, rs, l, ok, h => by
    unfold chkEl at h
    split at h
    · rw [Bool.and_eq_true] at h
      exact sl_star (sndB ok h.1 (sndE e ok h.1)) (sndEl es ok h.2)
    · cases h
theorem sndA : ∀ (es : Es) {X : Cx} {sc rs : Scope} {l : List Expr}, XOk C gl cf X sc rs → chkEs C es sc rs l = true → PA X l (SemA X.K (eva gl cf es))
  | .nil, X, sc, rs, l, ok, h => by
    cases l with
    | nil => exact sa_nil
    | cons a b => cases h
  | .cons e es, X, sc, rs, l, ok, h => by
    cases l with
    | nil => cases h
    | cons a b =>
      have h : (nice a && chkE C e sc rs a && chkEs C es sc rs b) = true := h
      simp only [Bool.and_eq_true] at h
      exact sa_cons h.1.1 (sndE e ok h.1.2) (sndA es ok h.2)
  | .star e es, X, sc, rs, l, ok, h => by cases h
theorem sndAS : ∀ (es : Es) {X : Cx} {sc rs : Scope} {l : List Expr} {z : Expr} {zp : Pos} {b : Ev → Sto → Option (D × Sto)}, XOk C gl cf X sc rs → chkEs C es sc rs l = true → PE X z (SemB X.K b) → PA X (l ++ [.Starred z zp]) (SemA X.K (addS (eva gl cf es) b))
  | .nil, X, sc, rs, l, z, zp, b, ok, h, hz => by
    cases l with
    | nil => exact sa_star1 hz
    | cons a b => cases h
  | .cons e es, X, sc, rs, l, z, zp, b, ok, h, hz => by
    cases l with
    | nil => cases h
    | cons a l =>
      have h : (nice a && chkE C e sc rs a && chkEs C es sc rs l) = true := h
      simp only [Bool.and_eq_true] at h
      exact semA_congr (sa_cons h.1.1 (sndE e ok h.1.2) (sndAS es ok h.2 hz)) (addS_cons _ _ _)
  | .star e es, X, sc, rs, l, z, zp, b, ok, h, hz => by cases h
theorem sndK : ∀ (es : Es) {X : Cx} {sc rs : Scope} {l : List Keyword}, XOk C gl cf X sc rs → chkKs C es sc rs l = true → PK X l (SemA X.K (eva gl cf es))
  | .nil, X, sc, rs, l, ok, h => by
    cases l with
    | nil => exact sk_nil
    | cons a b => cases h
  | .cons e es, X, sc, rs, l, ok, h => by
    cases l with
    | nil => cases h
    | cons a b =>
      obtain ⟨n, x, p⟩ := a
      have h : (chkE C e sc rs x && chkKs C es sc rs b) = true := h
      simp only [Bool.and_eq_true] at h
      exact sk_cons (sndE e ok h.1) (sndK es ok h.2)
  | .star e es, X, sc, rs, l, ok, h => by cases h
theorem sndO : ∀ (o : Oe) {X : Cx} {sc rs : Scope} {x : Option Expr}, XOk C gl cf X sc rs → chkO C o sc rs x = true → PO X x (SemO X.K (evo gl cf o))
  | .no, X, sc, rs, x, ok, h => by
    cases x with
    | none => exact so_no
    | some x => cases h
  | .yes e, X, sc, rs, x, ok, h => by
    cases x with
    | none => cases h
    | some x =>
      have h : chkE C e sc rs x = true := h
      exact so_yes (sndB ok h (sndE e ok h))
theorem sndC : ∀ (o : Oe) {X : Cx} {sc rs : Scope} {l : List Expr}, XOk C gl cf X sc rs → chkC C o sc rs l = true → PTs X l (SemT X.K (evc gl cf o))
  | .no, X, sc, rs, l, ok, h => by
    cases l with
    | nil => exact ⟨fun pins s σ H Q I ⟨M, U, st, env, b, st', er, ex, q⟩ => by
        cases ex
        exact pts_nil.run pins s σ H Q I (q H M Stp.refl er.sto)⟩
    | cons a b => cases h
  | .yes e, X, sc, rs, l, ok, h => by
    unfold chkC at h; split at h
    · rw [Bool.and_eq_true] at h
      exact pts_one (sndT e ok h.1 h.2 (sndE e ok h.2)).1
    · cases h
theorem sndI : ∀ (it : It) (z : L2.St → Ev → Addr → Prop), z = OwV ∨ brw it = false → ∀ {X : Cx} {sc rs : Scope} {tg x : Expr}, XOk C gl cf X sc rs → chkI C it sc rs tg x = true → (dkI it = false → PI X tg x (SemIZ z X.K (evi gl cf it))) ∧ PI X tg x (SemIL z X (evi gl cf it))
  | .of e, z, hz, X, sc, rs, tg, x, ok, h => by
    have h : chkE C e sc rs x = true := h
    rcases hz with rfl | hz
    · exact iBoth (si_of (sndB ok h (sndE e ok h)))
    · exact iBoth (si_of (sndB0 hz (sndE e ok h)))
  | .rng1 a, z, hz, X, sc, rs, tg, x, ok, h => by
    unfold chkI at h; split at h
    · simp only [Bool.and_eq_true, decide_eq_true_eq] at h
      obtain ⟨⟨⟨rfl, h2⟩, h3⟩, h4⟩ := h
      exact iBoth (si_rng1 (blt_of ok h2).1 (blt_of ok h2).2 h3 (sndB ok h4 (sndE a ok h4)))
    · cases h
  | .rng2 a b, z, hz, X, sc, rs, tg, x, ok, h => by
    unfold chkI at h; split at h
    · simp only [Bool.and_eq_true, decide_eq_true_eq] at h
      obtain ⟨⟨⟨⟨⟨rfl, h2⟩, h3⟩, h4⟩, h5⟩, h6⟩ := h
      exact iBoth (si_rng2 (blt_of ok h2).1 (blt_of ok h2).2 h3 h4 (sndB ok h5 (sndE a ok h5)) (sndB ok h6 (sndE b ok h6)))
    · cases h
  | .enm a, z, hz, X, sc, rs, tg, x, ok, h => by
    unfold chkI at h; split at h
    · split at h
      · simp only [Bool.and_eq_true, decide_eq_true_eq] at h
        obtain ⟨⟨⟨rfl, h2⟩, h3⟩, h4⟩ := h
        rcases hz with rfl | hz
        · exact iBoth (si_enm (blt_of ok h2).1 (blt_of ok h2).2 h3 (sndB ok h4 (sndE a ok h4)))
        · exact iBoth (si_enm (blt_of ok h2).1 (blt_of ok h2).2 h3 (sndB0 hz (sndE a ok h4)))
      · cases h
    · cases h
  | .zip a b, z, hz, X, sc, rs, tg, x, ok, h => by
    unfold chkI at h; split at h
    · split at h
      · simp only [Bool.and_eq_true, decide_eq_true_eq] at h
        obtain ⟨⟨⟨⟨⟨rfl, h2⟩, h3⟩, h4⟩, h5⟩, h6⟩ := h
        rcases hz with rfl | hz
        · exact iBoth (si_zip (blt_of ok h2).1 (blt_of ok h2).2 h3 h4 (sndB ok h5 (sndE a ok h5)) (sndB ok h6 (sndE b ok h6)))
        · have hz : (isV a || isV b) = false := hz
          rw [Bool.or_eq_false_iff] at hz
          exact iBoth (si_zip (blt_of ok h2).1 (blt_of ok h2).2 h3 h4 (sndB0 hz.1 (sndE a ok h5)) (sndB0 hz.2 (sndE b ok h6)))
      · cases h
    · cases h
end
end
end Pi

end
section
set_option Elab.async false
set_option linter.all false
set_option maxRecDepth 100000
set_option maxHeartbeats 4000000
namespace Pi
open PySem PySem.Spec PyProof.Rows L2
def isLC : Expr → Bool
  | .ListComp .. => true
  | .SetComp .. => true
  | .DictComp .. => true
  | _ => false
theorem sw_no {e : Expr} (h : isLC e = false) (t : Option Expr) (l : Nat) (env : Env) : swapsWith e t l env = pure false := by cases e <;> first | rfl | cases h
theorem sw_tup (e : Expr) (es : List Expr) (k : Nat) (p : Pos) (l : Nat) (env : Env) : swapsWith e (some (.Tuple es k p)) l env = pure false := by cases e <;> rfl
theorem sw_sub (e a b : Expr) (p : Pos) (l : Nat) (env : Env) : swapsWith e (some (.Subscript a b p)) l env = pure false := by cases e <;> rfl
def swB (sc scope : Scope) (y : Str) (py ep : Pos) : Bool := sc.names.lookup y == some .local && py.line == ep.line && !(scope.names.any fun (n, k) => n == y && (k == .local || k == .cell))
def isTup : Expr → Bool
  | .Tuple .. => true
  | _ => false
theorem st_no {e : Expr} (h : isTup e = false) (ts : List Expr) (env : Env) : swappedStores ts e env = pure none := by
  cases e with
  | Tuple a b c => cases h
  | _ =>
    unfold swappedStores
    rcases ts with _ | ⟨t, _ | ⟨u, r⟩⟩
    · rfl
    · cases t <;> rfl
    · cases t <;> rfl
theorem st_name {x e : Expr} (h : ∀ es k p, x ≠ .Tuple es k p) (h2 : ∀ es p, x ≠ .List es p) (env : Env) : swappedStores [x] e env = pure none := by
  unfold swappedStores
  cases x with
  | Tuple a b c => exact absurd rfl (h a b c)
  | List a b => exact absurd rfl (h2 a b)
  | _ => cases e <;> rfl
def starB : Expr → Bool
  | .Starred .. => true
  | _ => false
def nameAt (sc : Scope) (line : Nat) : Expr → Option Str
  | .Name id pos => if sc.names.lookup id == some .local && pos.line == line then some id else none
  | _ => none
def lnOf (ts : List Expr) : Nat := (ts.head?.map fun (e : Expr) => e.pos.line).getD 0
def swP (sc : Scope) (ts vs : List Expr) : Option (Option (List Str)) :=
  if !(ts.length == 2 || ts.length == 3) || vs.length != ts.length then some none
  else if vs.any starB then some none
  else if (ts.filterMap (nameAt sc (lnOf ts))).length != ts.length || (ts.filterMap (nameAt sc (lnOf ts))).eraseDups.length != (ts.filterMap (nameAt sc (lnOf ts))).length then some none
  else if vs.all (foldedForSure 8) then some none
  else if vs.all (constantsAlone 8) then none
  else some (some (ts.filterMap (nameAt sc (lnOf ts))))
theorem swP_ok {sc : Scope} {env : Env} {ts vs : List Expr} {k k2 : Nat} {p p2 : Pos} {r : Option (List Str)} (hs : env.scope = sc) (hb : env.blockKind = .function) (h : swP sc ts vs = some r) : swappedStores [.Tuple ts k p] (.Tuple vs k2 p2) env = pure r := by
  subst hs
  unfold swappedStores
  simp only [hb]
  show (if (!(ts.length == 2 || ts.length == 3) || vs.length != ts.length || ScopeKind.function != ScopeKind.function) = true then pure none
    else if (vs.any starB) = true then pure none
    else if ((ts.filterMap (nameAt env.scope (lnOf ts))).length != ts.length || (ts.filterMap (nameAt env.scope (lnOf ts))).eraseDups.length != (ts.filterMap (nameAt env.scope (lnOf ts))).length) = true then pure none
    else if vs.all (foldedForSure 8) = true then pure none
    else if vs.all (constantsAlone 8) = true then (do
      unsupported "assign.tuple-of-constant-expressions:order-of-the-stores"
      pure (some (ts.filterMap (nameAt env.scope (lnOf ts)))))
    else pure (some (ts.filterMap (nameAt env.scope (lnOf ts))))) = pure r
  unfold swP at h
  by_cases c1 : (!(ts.length == 2 || ts.length == 3) || vs.length != ts.length) = true
  · rw [if_pos c1] at h
    cases h
    rw [if_pos (by rw [c1]; rfl)]
  · rw [if_neg c1] at h
    rw [if_neg (by simpa using c1)]
    by_cases c2 : vs.any starB = true
    · rw [if_pos c2] at h
      cases h
      rw [if_pos c2]
    · rw [if_neg c2] at h
      rw [if_neg c2]
      split at h
      · rename_i c3
        cases h
        rw [if_pos c3]
      · rename_i c3
        rw [if_neg c3]
        split at h
        · rename_i c4
          cases h
          rw [if_pos c4]
        · rename_i c4
          rw [if_neg c4]
          split at h
          · cases h
          · rename_i c5
            cases h
            rw [if_neg c5]
end Pi

end
section
set_option Elab.async false
set_option linter.all false
set_option maxRecDepth 100000
set_option maxHeartbeats 4000000
namespace Pi
open PySem PySem.Spec PyProof.Rows L2
def locB (sc : Scope) (y : Str) : Bool := sc.names.lookup y == some .local
def tgOk (C : Ck) (sc : Scope) (t : Tg) (tg x : Expr) : Bool := match t with
  | .n _ => true
  | .t _ => (match tg with
    | .Tuple l _ _ => (match x with
      | .Tuple vs _ _ => (match swP sc l vs with
        | some none => true
        | some (some ns) => (match t, l with
          | .t (.cons (.n i) (.cons (.n j) .nil)), [.Name y _, .Name z _] => decide (ns = [y, z]) && locB sc y && locB sc z && decide (i ≠ j) && decide (vs.length = 2)
          | .t (.cons (.n i) (.cons (.n j) (.cons (.n k) .nil))), [.Name y _, .Name z _, .Name w _] => decide (ns = [y, z, w]) && locB sc y && locB sc z && locB sc w && decide (i ≠ j) && decide (i ≠ k) && decide (j ≠ k) && decide (vs.length = 3)
          | _, _ => false)
        | none => false)
      | _ => true)
    | _ => false)
mutual
def chkS (C : Ck) (sc : Scope) : S → Stmt → Bool
  | .asg t e, st => (match st with | .Assign [tg] x _ => chkE C e sc sc x && chkT C sc sc t tg && tgOk C sc t tg x | _ => false)
  | .own i e, st => (match st with | .Assign [.Name y _] x _ => C.N[i]? == some y && stB sc sc y && chkE C e sc sc x | _ => false)
  | .mv i j, st => false
  | .fz is s, st => chkS C sc s st
  | .stix i k e, st => (match st with | .Assign [.Subscript (.Name y _) z _] x _ => C.N[i]? == some y && visB sc y && nmB y && nice z && chkE C k sc sc z && chkE C e sc sc x | _ => false)
  | .app i e, st => (match st with | .Expr (.Call (.Attribute (.Name y _) m ap) [x] [] cp) _ => C.N[i]? == some y && visB sc y && nmB y && decide (m = "append") && decide (ap.endLine = cp.line) && nice x && chkE C e sc sc x | _ => false)
  | .ext i e, st => (match st with | .Expr (.Call (.Attribute (.Name y _) m ap) [x] [] cp) _ => C.N[i]? == some y && visB sc y && nmB y && decide (m = "extend") && decide (ap.endLine = cp.line) && nice x && chkE C e sc sc x | _ => false)
  | .par i oi e j oj f, st => (match st with
    | .Assign [.Tuple [.Name y _, .Name z _] _ _] (.Tuple [x, w] _ _) _ => C.N[i]? == some y && C.N[j]? == some z && decide (i ≠ j) && nice x && nice w && chkE C e sc sc x && chkE C f sc sc w &&
        (match st with | .Assign [.Tuple ts _ _] (.Tuple vs _ _) _ => (locB sc y && locB sc z && decide (swP sc ts vs = some (some [y, z]))) || (stB sc sc y && stB sc sc z && decide (swP sc ts vs = some none)) | _ => false)
    | _ => false)
  | .ex e, st => (match st with | .Expr x _ => !isLC x && chkE C e sc sc x | _ => false)
  | .ret e, st => (match st with | .Return (some x) _ => chkE C e sc sc x | _ => false)
  | .reto i, st => (match st with | .Return (some (.Name y _)) _ => C.N[i]? == some y && visB sc y && nmB y | _ => false)
  | .ret0, st => (match st with | .Return none _ => true | _ => false)
  | .rbox es, st => (match st with | .Return (some (.List l _)) _ => chkEs C es sc sc l | _ => false)
  | .ite c a b, st => (match st with | .If x p q _ => noIt c && chkE C c sc sc x && chkSs C sc a p && chkSs C sc b q | _ => false)
  | .for' t it b, st => (match st with | .For tg x p [] _ => nice x && chkI C it sc sc tg x && chkT C sc sc t tg && chkSs C sc b p | _ => false)
  | .brk, st => (match st with | .Break _ => true | _ => false)
  | .cnt, st => (match st with | .Continue _ => true | _ => false)
  | .pass, st => (match st with | .Pass _ => true | .Expr (.Constant (.str _) _ _) _ => true | _ => false)
  | .rse q c e, st => (match st with
    | .Raise (some (.Call (.Name y _) [x] [] _)) none _ => decide (y = c) && (match C.xs[q]? with | some (n, f) => decide (n = c) && !decide (f = ("given" : Str)) | none => false) && glB sc c && nice x && chkE C e sc sc x
    | .Raise (some (.Call (.Name y _) [] [] _)) none _ => decide (y = c) && (match C.xs[q]? with | some (n, f) => decide (n = c) && decide (f = ("given" : Str)) | none => false) && glB sc c && (match e with | .tup .nil => true | _ => false)
    | _ => false)
  | .hrd _ _, _ => false
  | .hrm _ _, _ => false
  | .never, st => true
def chkSs (C : Ck) (sc : Scope) : Ss → List Stmt → Bool
  | .nil, l => l.isEmpty
  | .cons s ss, l => (match l with | x :: l => chkS C sc s x && chkSs C sc ss l | [] => false)
end
section
variable {C : Ck} {gl : Nat → Option D} {cf : Cf} {X : Cx} {sc rs : Scope} {W : Nat}
theorem psImp {st : Stmt} {t t' : TS} (h : PS X st t) (f : ∀ D σ H, t' D σ H → t D σ H) : PS X st t' := ⟨fun pins s σ H D I q => h.run pins s σ H D I (f D σ H q)⟩
theorem pssImp {st : List Stmt} {t t' : TS} (h : PSs X st t) (f : ∀ D σ H, t' D σ H → t D σ H) : PSs X st t' := ⟨fun pins s σ H D I q => h.run pins s σ H D I (f D σ H q)⟩
theorem semD_im {K : PySem.W.Frag} {f : Ev → Sto → Option (Vl × Sto)} (σ : L2.St) (H : Hp) (Q : VK) (h : SemD K (fun env st => toD (f env st)) σ H Q) : SemE K f σ H Q := by
  obtain ⟨M, U, st, env, x, st', er, ex, q⟩ := h
  obtain ⟨w, s, h1, h2⟩ := bnd_eq ex
  cases hw : w.toD with
  | none => rw [hw] at h2; cases h2
  | some y =>
    rw [hw] at h2
    cases h2
    exact ⟨M, U, st, env, w, _, er, h1, EPost.toD er.sto.tr hw q⟩
theorem sw_lc {elt : Expr} {gs : List Comprehension} {scope : Scope} {pos py : Pos} {y : Str} {l : Nat} {env : Env} (hb : env.blockKind = .function) (hs : env.scope = sc) :
    swapsWith (.ListComp elt gs scope pos) (some (.Name y py)) l env = pure (swB sc scope y py pos) := by
  subst hs
  show (pure (env.blockKind == .function && env.kindOf y == some .local && py.line == (Expr.ListComp elt gs scope pos).pos.line && !(scope.names.any fun (n, k) => n == y && (k == .local || k == .cell))) : Sem Bool) = _
  rw [hb]
  rfl
theorem kindB (ok : XOk C gl cf X sc rs) (hk : sc.kind = .function) : X.env.blockKind = .function := by
  show (if X.env.scope.kind.isAnnotationScope then ScopeKind.function else X.env.scope.kind) = _
  rw [ok.sc, hk]
  rfl
theorem ps_name (ok : XOk C gl cf X sc sc) (hk : sc.kind = .function) {e : E} {i : Nat} {x : Expr} {y : Str} {py pos : Pos} (h : chkE C e sc sc x = true) (hi : X.N[i]? = some y) (hy : StN X y) :
    PS X (.Assign [.Name y py] x pos) (tAsg (SemE X.K (ev gl cf e)) (gName i)) := by
  by_cases cn : isLC x = false
  · exact ps_set ok.nd hi hy.1 (sndE e ok h) (sw_no cn _ _ _) hy.2
  · cases e with
    | lc vs e t it c =>
      have h0 := h
      unfold chkE at h; split at h
      · rename_i elt tg iter ifs scope cpos
        by_cases cs : swB sc scope y py cpos = false
        · exact ps_set ok.nd hi hy.1 (sndE _ ok h0) ((sw_lc (kindB ok hk) ok.sc).trans (by rw [cs])) hy.2
        · have cs : swB sc scope y py cpos = true := by simpa using cs
          have hl : X.env.scope.names.lookup y = some .local := by
            unfold swB at cs
            simp only [Bool.and_eq_true] at cs
            rw [ok.sc]
            exact beq_iff_eq.mp cs.1.1
          simp only [Bool.and_eq_true, List.all_eq_true] at h
          obtain ⟨⟨⟨⟨⟨⟨h1, h2⟩, h3⟩, h4⟩, h5⟩, h6⟩, h7⟩ := h
          obtain ⟨b1, b2⟩ := blk_of ok h1
          refine psImp (Pk.ps_unl (ps_setLc (tt := SemT X.K (evc gl cf c)) (te := SemD X.K fun env st => toD (ev gl cf e env st)) (g := tgR X.K t) ok.calm ok.nd hi hl ((sw_lc (kindB ok hk) ok.sc).trans (by rw [cs])) (sndI it OwV (.inl rfl) ok h5).2 b1
            (fun s H Cd cl fp => pg_T (ok.blk s H _ Cd cl fp).calm (ok.blk s H _ Cd cl fp).nd (chkT_ok (ok.blk s H _ Cd cl fp) t _ h4))
            (fun s H Cd cl fp => sndC c (ok.blk s H _ Cd cl fp) h6)
            (fun s H Cd cl fp => semD_of (sndE e (ok.blk s H _ Cd cl fp) h7)) (noFold h3 X.env))) fun D σ H q => ?_
          rw [b2]
          exact lc_imL (fun i hi => by simpa using h2 i hi) _ _ _ q
      · cases h
    | dnew t =>
      unfold chkE at h; split at h
      · exact absurd rfl cn
      · cases h
    | isi a ts =>
      unfold chkE at h; split at h
      · exact absurd rfl cn
      · exact absurd rfl cn
      · cases h
    | and a b =>
      unfold chkE at h; split at h
      · exact absurd rfl cn
      · exact absurd rfl cn
      · cases h
    | or a b =>
      unfold chkE at h; split at h
      · exact absurd rfl cn
      · exact absurd rfl cn
      · cases h
    | _ =>
      unfold chkE at h; split at h
      · exact absurd rfl cn
      · cases h
end
end Pi

end
section
set_option Elab.async false
set_option linter.all false
set_option maxRecDepth 100000
set_option maxHeartbeats 4000000
namespace Pi
open PySem PySem.Spec PyProof.Rows L2
section
variable {C : Ck} {gl : Nat → Option D} {cf : Cf} {X : Cx} {sc : Scope} {W : Nat}
theorem asg_im {D : Ends} {σ : L2.St} {H : Hp} {K : PySem.W.Frag} {e : E} {i : Nat} (q : SemS K (exec gl cf W (.asg (.n i) e)) D σ H) : tAsg (SemE K (ev gl cf e)) (gName i) D σ H :=
  semD_im _ _ _ (sem_asg (t := .n i) q)
theorem sem_parL {D : Ends} {σ : L2.St} {H : Hp} {K : PySem.W.Frag} {g : Ev → Sto → Option (List PyData × Sto)} {ts : Tgs}
    (h : SemS K (fun env st => match toD (bnd (g env st) fun xs s => if xs.length ≤ SL then some (Vl.d (.tuple xs), s) else none) with | some (x, s) => (bindT (.t ts) x env).map fun e1 => (.nx, e1, s) | none => none) D σ H) :
    SemL K g σ H fun vs H1 => tgsR K ts vs σ H1 D.nx := by
  obtain ⟨M, Z, st, env, fl, env', st', r, e, q⟩ := h
  simp only [] at e
  split at e
  · rename_i x s hx
    obtain ⟨w, s1, h1, h2⟩ := bnd_eq hx
    obtain ⟨xs, s2, h3, h4⟩ := bnd_eq h1
    obtain ⟨hz, h4⟩ := dec2 h4
    cases h4
    cases h2
    obtain ⟨e1, hb, e⟩ := Option.map_eq_some_iff.mp e
    cases e
    refine ⟨M, _, st, env, xs, _, r.er, h3, fun vs H1 M1 s so ra => ?_⟩
    refine (binds_ok ts (r.er.step s so) ra hb fun σ' er' hl ag => ?_).2
    have sub : Sub σ env σ' env' := fun i ⟨y, hy⟩ => by
      rcases (binds_look ts hb).2 i with ⟨h1, h2⟩ | ⟨z, h1⟩
      · exact ⟨h1, by rw [ag i h2]⟩
      · rw [h1] at hy; rcases hy with hy | hy <;> cases hy
    exact q M1 H1 σ' (SSt.ofStp s so fun a z => .inl (sub.w z)) sub.lks (r.sub sub er')
  · cases e
theorem slmono {K : PySem.W.Frag} {g : Ev → Sto → Option (List PyData × Sto)} {σ : L2.St} {H : Hp} {Q Q' : List V → Hp → Prop} (h : SemL K g σ H Q) (f : ∀ vs H, Q vs H → Q' vs H) : SemL K g σ H Q' := by
  obtain ⟨M, U, st, env, xs, s, er, e, q⟩ := h
  exact ⟨M, U, st, env, xs, s, er, e, fun vs H1 M1 p so ra => f _ _ (q vs H1 M1 p so ra)⟩
theorem loc_of (ok : XOk C gl cf X sc sc) {y : Str} (h : locB sc y = true) : X.env.scope.names.lookup y = some .local := by
  rw [ok.sc]; exact beq_iff_eq.mp h
theorem ps_tup (ok : XOk C gl cf X sc sc) (hk : sc.kind = .function) {e : E} {ts : Tgs} {tg x : Expr} {pos : Pos} (h1 : chkE C e sc sc x = true) (h2 : chkT C sc sc (.t ts) tg = true) (h3 : tgOk C sc (.t ts) tg x = true) :
    PS X (.Assign [tg] x pos) (SemS X.K (exec gl cf W (.asg (.t ts) e))) := by
  have hg := pg_T ok.calm ok.nd (chkT_ok ok (.t ts) tg h2)
  cases tg with
  | Tuple l k p =>
    by_cases ct : isTup x = false
    · refine psImp (ps_asg (semD_of (sndE e ok h1)) hg (sw_tup x l k p pos.line X.env) (st_no ct _ _)) fun D σ H q => sem_asg q
    · cases x with
      | Tuple vs k2 p2 =>
        unfold tgOk at h3
        simp only [] at h3
        split at h3
        · rename_i hp
          exact psImp (ps_asg (semD_of (sndE e ok h1)) hg (sw_tup (.Tuple vs k2 p2) l k p pos.line X.env) (swP_ok ok.sc (kindB ok hk) hp)) fun D σ H q => sem_asg q
        · rename_i ns hp
          have hes : ∃ es, e = .tup es ∧ chkEl C es sc sc vs = true := by
            cases e <;> first | (unfold chkE at h1; exact ⟨_, rfl, h1⟩) | (unfold chkE at h1; cases h1)
          obtain ⟨es, rfl, he⟩ := hes
          have pa := sndEl es ok he
          have hw := swP_ok (k := k) (p := p) (k2 := k2) (p2 := p2) ok.sc (kindB ok hk) hp
          split at h3
          · rename_i i j y py z pz he2
            simp only [Bool.and_eq_true, decide_eq_true_eq] at h3
            obtain ⟨⟨⟨⟨rfl, hy⟩, hzz⟩, hij⟩, hlen⟩ := h3
            cases he2
            unfold chkT chkTs chkTs chkTs chkT at h2
            simp only [Bool.and_eq_true] at h2
            obtain ⟨⟨hi, _⟩, ⟨hj, _⟩, _⟩ := h2
            obtain ⟨a, b, rfl⟩ : ∃ a b, vs = [a, b] := by
              match vs, hlen with
              | [a, b], _ => exact ⟨a, b, rfl⟩
            refine psImp (ps_par ok.calm ok.nd (nth_of ok hi) (nth_of ok hj) hij (loc_of ok hy) (loc_of ok hzz) pa hw rfl) fun D σ H q => ?_
            refine slmono (sem_parL q) fun us H1 ⟨v, r, e1, v2, r2, e2, e3, q⟩ => ?_
            subst e1; subst e2; subst e3
            exact ⟨v, v2, rfl, q⟩
          · rename_i i j m y py z pz w pw he2
            simp only [Bool.and_eq_true, decide_eq_true_eq] at h3
            obtain ⟨⟨⟨⟨⟨⟨⟨rfl, hy⟩, hzz⟩, hww⟩, hij⟩, him⟩, hjm⟩, hlen⟩ := h3
            cases he2
            unfold chkT chkTs chkTs chkTs chkTs chkT at h2
            simp only [Bool.and_eq_true] at h2
            obtain ⟨⟨hi, _⟩, ⟨hj, _⟩, ⟨hm, _⟩, _⟩ := h2
            obtain ⟨a, b, c, rfl⟩ : ∃ a b c, vs = [a, b, c] := by
              match vs, hlen with
              | [a, b, c], _ => exact ⟨a, b, c, rfl⟩
            refine psImp (ps_par3 ok.calm ok.nd (nth_of ok hi) (nth_of ok hj) (nth_of ok hm) hij him hjm (loc_of ok hy) (loc_of ok hzz) (loc_of ok hww) pa hw rfl) fun D σ H q => ?_
            refine slmono (sem_parL q) fun us H1 ⟨v, r, e1, v2, r2, e2, v3, r3, e3, e4, q⟩ => ?_
            subst e1; subst e2; subst e3; subst e4
            exact ⟨v, v2, v3, rfl, q⟩
          · cases h3
        · cases h3
      | _ => exact absurd rfl ct
  | _ => unfold chkT at h2; cases h2
end
end Pi

end
section
set_option Elab.async false
set_option linter.all false
set_option maxRecDepth 100000
set_option maxHeartbeats 4000000
namespace Pi
open PySem PySem.Spec PyProof.Rows L2
section
variable {C : Ck} {gl : Nat → Option D} {cf : Cf} {X : Cx} {sc : Scope} {W : Nat}
theorem epmono {K : PySem.W.Frag} {M : List Addr} {U : Addr → Prop} {H : Hp} {st' : Sto} {w : Vl} {Q Q' : VK} (f : ∀ v H, Q v H → Q' v H) (q : EPost K M U H st' w Q) : EPost K M U H st' w Q' := by
  cases w with
  | d x => exact fun v H' M' s so r => f _ _ (q v H' M' s so r)
  | fr x => exact fun a H' M' s n so r => f _ _ (q a H' M' s n so r)
  | rf n => exact fun a H' M' s so r => f _ _ (q a H' M' s so r)
theorem var_of (ok : XOk C gl cf X sc sc) {i : Nat} {y : Str} {p : Pos} (h1 : (C.N[i]? == some y) = true) (h2 : visB sc y = true) (h3 : nmB y = true) : PE X (.Name y p) (tVar i) :=
  pe_var (nth_of ok h1) (vis_of ok h2) (nm_of h3).1 (nm_of h3).2
theorem ps_app (ok : XOk C gl cf X sc sc) {i : Nat} {y : Str} {yp ap cp p : Pos} {x : Expr} {e : E} (h1 : (C.N[i]? == some y) = true) (h2 : visB sc y = true) (h3 : nmB y = true) (hl : ap.endLine = cp.line) (n : nice x = true) (hx : chkE C e sc sc x = true) :
    PS X (.Expr (.Call (.Attribute (.Name y yp) "append" ap) [x] [] cp) p) (SemS X.K (exec gl cf W (.app i e))) :=
  psImp (ps_expr (pe_bm PySem.F.plainAttrs_list PySem.F.slot_list_append PySem.F.type_list_append mt_append (var_of ok h1 h2 h3) (pa_cons (semD_of (sndE e ok hx)) pa_nil (star1 n [] _)) rfl (few1 n cp _) (by rw [hl]; exact beq_self_eq_true _) (star1 n [] _) rfl) rfl) fun D σ H q => sem_app q
theorem ps_par2 (ok : XOk C gl cf X sc sc) (hk : sc.kind = .function) {i j : Nat} {oi oj : Bool} {y z : Str} {yp zp tp vp p : Pos} {k k2 : Nat} {x w : Expr} {e f : E} (h1 : (C.N[i]? == some y) = true) (h2 : (C.N[j]? == some z) = true) (ly : locB sc y = true) (lz : locB sc z = true) (hij : i ≠ j)
    (nx : nice x = true) (nw : nice w = true) (he : chkE C e sc sc x = true) (hf : chkE C f sc sc w = true) (hs : swP sc [.Name y yp, .Name z zp] [x, w] = some (some [y, z])) :
    PS X (.Assign [.Tuple [.Name y yp, .Name z zp] k tp] (.Tuple [x, w] k2 vp) p) (SemS X.K (exec gl cf W (.par i oi e j oj f))) :=
  psImp (ps_par ok.calm ok.nd (nth_of ok h1) (nth_of ok h2) hij (loc_of ok ly) (loc_of ok lz) (pa_cons (sndE e ok he) (pa_cons (sndE f ok hf) pa_nil (star1 nw [] _)) (star1 nx [w] _)) (swP_ok ok.sc (kindB ok hk) hs) rfl) fun D σ H q => by
    obtain ⟨M, U, st, env, u, s, er, e1, q1⟩ := sem_par (f := ev gl cf e) (g := ev gl cf f) q
    exact ⟨M, U, st, env, u, s, er, e1, epmono (fun v H1 q2 => by
      obtain ⟨M2, U2, st2, env2, u2, s2, er2, e2, q3⟩ := q2
      exact ⟨M2, U2, st2, env2, u2, s2, er2, e2, epmono (fun v2 H2 q4 => ⟨v, v2, rfl, q4⟩) q3⟩) q1⟩
theorem semS_grow {K : PySem.W.Frag} {f : Ev → Sto → SR} {D : Ends} {σ : L2.St} {H : Hp} (h : SemS K f D σ H) : SemS K f { D with nx := fun σ H => ∀ p o, H p = none → D.nx σ (L2.upd H p o) } σ H := by
  obtain ⟨M, Z, st, env, fl, env', st', r, e, q⟩ := h
  refine ⟨M, Z, st, env, fl, env', st', r, e, ?_⟩
  cases fl with
  | nx =>
    intro M' H' σ' s l r' p o hp
    have g := Stp.grow (M := M') (growN (o := o) hp)
    have so := r'.er.sto.grow (growN (o := o) hp)
    exact q M' _ σ' (s.trans (SSt.ofStp g so fun _ z => .inl z)) l (r'.step g so)
  | bk => exact q
  | ct => exact q
  | rt w => exact q
theorem ps_parT (ok : XOk C gl cf X sc sc) (hk : sc.kind = .function) {i j : Nat} {oi oj : Bool} {y z : Str} {yp zp tp vp p : Pos} {k k2 : Nat} {x w : Expr} {e f : E} (h1 : (C.N[i]? == some y) = true) (h2 : (C.N[j]? == some z) = true) (sy : stB sc sc y = true) (sz : stB sc sc z = true)
    (nx : nice x = true) (nw : nice w = true) (he : chkE C e sc sc x = true) (hf : chkE C f sc sc w = true) (hs : swP sc [.Name y yp, .Name z zp] [x, w] = some none) :
    PS X (.Assign [.Tuple [.Name y yp, .Name z zp] k tp] (.Tuple [x, w] k2 vp) p) (SemS X.K (exec gl cf W (.par i oi e j oj f))) := by
  have py := st_of' ok sy
  have pz := st_of' ok sz
  have pg : PG X (.Tuple [.Name y yp, .Name z zp] k tp) (gTup X.K 2 (gCons (gName i) (gCons (gName j) gNil))) := pg_tup ok.calm (pgs_cons (pg_name ok.nd (nth_of ok h1) py.1 py.2) (pgs_cons (pg_name ok.nd (nth_of ok h2) pz.1 pz.2) pgs_nil rfl) rfl) rfl rfl
  refine psImp (ps_asg (pe_tup (pa_cons (sndE e ok he) (pa_cons (sndE f ok hf) pa_nil (star1 nw [] _)) (star1 nx [w] _))) pg (sw_tup (.Tuple [x, w] k2 vp) [.Name y yp, .Name z zp] k tp p.line X.env) (swP_ok ok.sc (kindB ok hk) hs)) fun D σ H q => ?_
  obtain ⟨M, U, st, env, u, s, er, e1, q1⟩ := sem_par (f := ev gl cf e) (g := ev gl cf f) (semS_grow q)
  refine ⟨M, U, st, env, u, s, er, e1, epmono (fun v H1 q2 => ?_) q1⟩
  obtain ⟨M2, U2, st2, env2, u2, s2, er2, e2, q3⟩ := q2
  refine ⟨M2, U2, st2, env2, u2, s2, er2, e2, epmono (fun v2 H2 q4 => ?_) q3⟩
  exact ⟨(by decide : 2 ≤ sizeLine), fun p hp => ⟨p, [v, v2], rfl, .inl (.inl upd_same), rfl, v, [v2], rfl, v2, [], rfl, rfl, q4 p _ hp⟩⟩
theorem ps_ext (ok : XOk C gl cf X sc sc) {i : Nat} {y : Str} {yp ap cp p : Pos} {x : Expr} {e : E} (h1 : (C.N[i]? == some y) = true) (h2 : visB sc y = true) (h3 : nmB y = true) (hl : ap.endLine = cp.line) (n : nice x = true) (hx : chkE C e sc sc x = true) :
    PS X (.Expr (.Call (.Attribute (.Name y yp) "extend" ap) [x] [] cp) p) (SemS X.K (exec gl cf W (.ext i e))) :=
  psImp (ps_expr (pe_bm PySem.F.plainAttrs_list PySem.F.slot_list_extend PySem.F.type_list_extend mt_extend (var_of ok h1 h2 h3) (pa_cons (sndE e ok hx) pa_nil (star1 n [] _)) rfl (few1 n cp _) (by rw [hl]; exact beq_self_eq_true _) (star1 n [] _) rfl) rfl) fun D σ H q => sem_ext q
theorem ps_stix (ok : XOk C gl cf X sc sc) {i : Nat} {y : Str} {yp sp p : Pos} {x z : Expr} {k e : E} (h1 : (C.N[i]? == some y) = true) (h2 : visB sc y = true) (h3 : nmB y = true) (n : nice z = true) (hk : chkE C k sc sc z = true) (hx : chkE C e sc sc x = true) :
    PS X (.Assign [.Subscript (.Name y yp) z sp] x p) (SemS X.K (exec gl cf W (.stix i k e))) :=
  psImp (ps_asg (semD_of (sndE e ok hx)) (pg_sub (var_of ok h1 h2 h3) (sndB ok hk (sndE k ok hk)) (set_ld (by have := ok.un; omega)) (fun v => by cases z <;> first | rfl | cases n)) (sw_sub x (.Name y yp) z sp p.line X.env) (st_name (fun _ _ _ h => by cases h) (fun _ _ h => by cases h) _)) fun D σ H q => sem_stix q
theorem lockOf_ow {it : It} (env : Ev) (i : Nat) (h : lockOf it env = some i) : ∃ x, look env i = .ow x := by
  cases it with
  | of e =>
    cases e with
    | v j =>
      have h : (match look env j with | .ow _ => some j | _ => none) = some i := h
      cases hl : look env j with
      | ow x => rw [hl] at h; cases h; exact ⟨x, hl⟩
      | no => rw [hl] at h; cases h
      | sh x => rw [hl] at h; cases h
      | lk x => rw [hl] at h; cases h
      | rf x => rw [hl] at h; cases h
      | kt x => rw [hl] at h; cases h
    | _ => cases h
  | enm e =>
    cases e with
    | v j =>
      have h : (match look env j with | .ow _ => some j | _ => none) = some i := h
      cases hl : look env j with
      | ow x => rw [hl] at h; cases h; exact ⟨x, hl⟩
      | no => rw [hl] at h; cases h
      | sh x => rw [hl] at h; cases h
      | lk x => rw [hl] at h; cases h
      | rf x => rw [hl] at h; cases h
      | kt x => rw [hl] at h; cases h
    | _ => cases h
  | _ => cases h
mutual
theorem sndS (ok : XOk C gl cf X sc sc) (hk : sc.kind = .function) (hp : PassesOwn (model X.prog X.w) X.A X.env X.xe) : ∀ (s : S) (st : Stmt), chkS C sc s st = true → PS X st (SemS X.K (exec gl cf W s))
  | .asg t e, st, h => by
    unfold chkS at h; split at h
    · simp only [Bool.and_eq_true] at h
      obtain ⟨⟨h1, h2⟩, h3⟩ := h
      cases t with
      | n i =>
        unfold chkT at h2
        split at h2
        · rw [Bool.and_eq_true] at h2
          exact psImp (ps_name ok hk h1 (nth_of ok h2.1) (st_of' ok h2.2)) fun D σ H q => asg_im q
        · cases h2
      | t ts => exact ps_tup ok hk h1 h2 h3
    · cases h
  | .own i e, st, h => by
    unfold chkS at h; split at h
    · simp only [Bool.and_eq_true] at h
      obtain ⟨⟨h1, h2⟩, h3⟩ := h
      exact psImp (ps_name ok hk h3 (nth_of ok h1) (st_of' ok h2)) fun D σ H q => sem_own q
    · cases h
  | .mv i j, st, h => by cases h
  | .fz is s, st, h => psImp (sndS ok hk hp s st h) fun D σ H q => sem_fz q
  | .stix i k e, st, h => by
    unfold chkS at h; split at h
    · simp only [Bool.and_eq_true] at h
      obtain ⟨⟨⟨⟨⟨h1, h2⟩, h3⟩, h4⟩, h5⟩, h6⟩ := h
      exact ps_stix ok h1 h2 h3 h4 h5 h6
    · cases h
  | .app i e, st, h => by
    unfold chkS at h; split at h
    · simp only [Bool.and_eq_true, decide_eq_true_eq] at h
      obtain ⟨⟨⟨⟨⟨⟨h1, h2⟩, h3⟩, rfl⟩, h5⟩, h6⟩, h7⟩ := h
      exact ps_app ok h1 h2 h3 h5 h6 h7
    · cases h
  | .ext i e, st, h => by
    unfold chkS at h; split at h
    · simp only [Bool.and_eq_true, decide_eq_true_eq] at h
      obtain ⟨⟨⟨⟨⟨⟨h1, h2⟩, h3⟩, rfl⟩, h5⟩, h6⟩, h7⟩ := h
      exact ps_ext ok h1 h2 h3 h5 h6 h7
    · cases h
  | .par i oi e j oj f, st, h => by
    unfold chkS at h; split at h
    · simp only [Bool.and_eq_true, decide_eq_true_eq] at h
      obtain ⟨⟨⟨⟨⟨⟨⟨h1, h2⟩, h5⟩, h6⟩, h7⟩, h8⟩, h9⟩, h10⟩ := h
      rw [Bool.or_eq_true, Bool.and_eq_true, Bool.and_eq_true, Bool.and_eq_true, Bool.and_eq_true, decide_eq_true_eq, decide_eq_true_eq] at h10
      rcases h10 with h10 | h10
      · exact ps_par2 ok hk h1 h2 h10.1.1 h10.1.2 h5 h6 h7 h8 h9 h10.2
      · exact ps_parT ok hk h1 h2 h10.1.1 h10.1.2 h6 h7 h8 h9 h10.2
    · cases h
  | .ex e, st, h => by
    unfold chkS at h; split at h
    · simp only [Bool.and_eq_true, Bool.not_eq_true'] at h
      exact psImp (ps_expr (sndE e ok h.2) (sw_no h.1 _ _ _)) fun D σ H q => sem_ex q
    · cases h
  | .ret e, st, h => by
    unfold chkS at h; split at h
    · exact psImp (ps_ret (sndE e ok h)) fun D σ H q => sem_ret q
    · cases h
  | .reto i, st, h => by
    unfold chkS at h; split at h
    · simp only [Bool.and_eq_true] at h
      exact psImp (ps_ret (var_of ok h.1.1 h.1.2 h.2)) fun D σ H q => sem_reto q
    · cases h
  | .ret0, st, h => by
    unfold chkS at h; split at h
    · exact psImp ps_retN fun D σ H q => sem_ret0 q
    · cases h
  | .rbox es, st, h => by
    unfold chkS at h; split at h
    · exact psImp (ps_ret (se_lst (sndL es ok h))) fun D σ H q => sem_rbox q
    · cases h
  | .ite c a b, st, h => by
    unfold chkS at h; split at h
    · simp only [Bool.and_eq_true] at h
      obtain ⟨⟨⟨h1, h2⟩, h3⟩, h4⟩ := h
      exact psImp (ps_if (sndT c ok h1 h2 (sndE c ok h2)).1 (sndSs ok hk hp a _ h3) (sndSs ok hk hp b _ h4)) fun D σ H q => sem_if q
    · cases h
  | .for' t it b, st, h => by
    unfold chkS at h; split at h
    · simp only [Bool.and_eq_true] at h
      obtain ⟨⟨⟨h1, h2⟩, h3⟩, h4⟩ := h
      have hg := pg_T ok.calm ok.nd (chkT_ok ok t _ h3)
      cases hb : brw it with
      | true => exact psImp (Pk.ps_unl (ps_for hp ok.calm (sndI it OwV (.inl rfl) ok h2).2 hg (sndSs ok hk hp b _ h4) (noFold h1 X.env))) fun D σ H q => sem_for (bb := brw it) (o := lockOf it) lockOf_ow (.inl ⟨hb, rfl⟩) q
      | false => exact psImp (Pk.ps_unl (ps_for hp ok.calm (sndI it (fun _ _ _ => False) (.inr hb) ok h2).2 hg (sndSs ok hk hp b _ h4) (noFold h1 X.env))) fun D σ H q => sem_for (bb := brw it) (o := lockOf it) lockOf_ow (.inr rfl) q
    · cases h
  | .brk, st, h => by
    unfold chkS at h; split at h
    · exact psImp ps_break fun D σ H q => sem_brk q
    · cases h
  | .cnt, st, h => by
    unfold chkS at h; split at h
    · exact psImp ps_continue fun D σ H q => sem_cnt q
    · cases h
  | .pass, st, h => by
    unfold chkS at h; split at h
    · exact psImp ps_pass fun D σ H q => sem_pass q
    · exact psImp ps_doc fun D σ H q => sem_pass q
    · cases h
  | .rse _ c e, st, h => psImp ps_never fun D σ H q => sem_never q
  | .hrd _ _, st, h => psImp ps_never fun D σ H q => sem_never q
  | .hrm _ _, st, h => psImp ps_never fun D σ H q => sem_never q
  | .never, st, h => psImp ps_never fun D σ H q => sem_never q
theorem sndSs (ok : XOk C gl cf X sc sc) (hk : sc.kind = .function) (hp : PassesOwn (model X.prog X.w) X.A X.env X.xe) : ∀ (ss : Ss) (l : List Stmt), chkSs C sc ss l = true → PSs X l (SemS X.K (execs gl cf W ss))
  | .nil, l, h => by
    cases l with
    | nil => exact pssImp pss_nil fun D σ H q => sem_pass q
    | cons a b => cases h
  | .cons s ss, l, h => by
    cases l with
    | nil => cases h
    | cons a b =>
      have h : (chkS C sc s a && chkSs C sc ss b) = true := h
      rw [Bool.and_eq_true] at h
      exact pssImp (pss_cons (sndS ok hk hp s a h.1) (sndSs ok hk hp ss b h.2)) fun D σ H q => sem_seq q
end
end
end Pi

end
section
set_option Elab.async false
set_option linter.all false
set_option maxRecDepth 100000
set_option maxHeartbeats 4000000
namespace Pi
open PySem PySem.Spec PyProof.Rows L2
theorem room66 {k : Nat} {A : Around} (r : L2.Room k A) : A.units + 66 < cLine := by have := r.un; omega
structure Ent where
  nm : Str
  ps : List Str
  N : List Str
  st : Stmt
structure Tbl where
  gs : List Str
  fs : List (Str × Nat)
  kw : List (Nat × Nat × List Str × List Nat)
  bl : List Str
  xs : List (Str × Str)
  kt : List Nat
def Tbl.ck (T : Tbl) (N : List Str) : Ck := ⟨N, T.gs, T.fs, T.kw, T.bl, T.xs, T.kt⟩
def Hh.hd (h : Hh) : Hd := ⟨h.er, "", "", h.j, 0, 0, h.q, h.cn, h.fld, h.tags, h.base⟩
def chkB (C : Ck) (sc : Scope) (B : Ss) (l : List Stmt) : Bool := chkSs C sc B l
def chkF (T : Tbl) (e : Ent) (F : Fn) : Bool :=
  C8.scC e.N e.ps (defScope e.st) && decide (e.ps.length = F.np) && decide (e.N.length = F.nn) && decide (F.np ≤ F.nn) && chkB (T.ck e.N) (defScope e.st) F.body (defBody e.st)
structure EntOk (K : PySem.W.Frag) (mg : Str → Option Value) (T : Tbl) (i : Nat) (e : Ent) (f : Addr) (fd : FuncData) : Prop where
  fn : L2.Fun K e.nm e.nm e.st f fd
  mgf : mg e.nm = some (.ref f)
  b : Binds K fd e.ps []
  kw : ∀ m ks pm, (i, m, ks, pm) ∈ T.kw → KwOk K fd e.ps m ks pm
section
variable {K : PySem.W.Frag} {gl : Nat → Option D} {P : List Fn} {W : Nat}
theorem run_succ {k i : Nat} {ws : List Vl} {st : Sto} {r : Vl × Sto} {F0 : Fn} (hP : P[i]? = some F0) (h : run gl P W (k + 1) i ws st = some r) : ∃ F, P[i]? = some F ∧ ws.length = F.np ∧ outB gl (run gl P W k) W (nd P.length k) F.body (ws.map slotOf ++ List.replicate (F.nn - F.np) .no) st = some r := by
  unfold run at h
  rw [hP] at h
  simp only [] at h
  split at h
  · exact ⟨_, hP, ‹_›, h⟩
  · cases h
theorem start_look (ws : List Vl) (n i : Nat) : look (ws.map slotOf ++ List.replicate n .no) i = match ws[i]? with | some w => slotOf w | none => .no := by
  unfold look
  rw [List.getD_eq_getElem?_getD]
  by_cases h : i < ws.length
  · rw [List.getElem?_append_left (by rw [List.length_map]; exact h), List.getElem?_map, List.getElem?_eq_getElem h]; rfl
  · rw [List.getElem?_append_right (by rw [List.length_map]; omega), List.getElem?_eq_none (l := ws) (by omega)]
    rw [List.length_map, List.getElem?_replicate]
    by_cases c : i - ws.length < n
    · rw [if_pos c]; rfl
    · rw [if_neg c]; rfl
theorem start_no (ws : List Vl) (n i : Nat) : ¬ IsOw (look (ws.map slotOf ++ List.replicate n .no) i) := fun ⟨x, h⟩ => by
  rw [start_look] at h
  cases q : ws[i]? with
  | none => rw [q] at h; rcases h with h | h <;> cases h
  | some w => rw [q] at h; cases w <;> (rcases h with h | h <;> cases h)
theorem start_ok {M : List Addr} {U : Addr → Prop} {H : Hp} {st : Sto} {vs : List V} {ws : List Vl} {N : List Str} {n : Nat} (so : StoOk K M U H st) (ra : VsAll K M U H vs ws) (hn : ws.length + n = N.length) :
    SRl K M U H st (L2.start N vs) (ws.map slotOf ++ List.replicate n .no) := by
  have nv : ∀ a, ¬ OwV (L2.start N vs) (ws.map slotOf ++ List.replicate n .no) a := fun a ⟨i, x, h, _⟩ => start_no ws n i ⟨x, h⟩
  have hl := ra.length
  have er : ER K M U H st (L2.start N vs) (ws.map slotOf ++ List.replicate n .no) := by
    refine ⟨so, ?_, fun i => ?_⟩
    · unfold L2.start
      rw [List.length_append, List.length_append, List.length_map, List.length_map, List.length_replicate, List.length_replicate]
      omega
    · rw [start_look]
      cases q : ws[i]? with
      | none => trivial
      | some w =>
        obtain ⟨v, h1, h2⟩ := ra.get q
        have hv : ((L2.start N vs)[i]?).join = some v := by
          unfold L2.start
          rw [List.getElem?_append_left (by rw [List.length_map]; exact (List.getElem?_eq_some_iff.mp h1).1), List.getElem?_map, h1]; rfl
        rw [hv]
        cases w with
        | d x => exact ⟨v, rfl, h2⟩
        | fr x => exact h2.elim
        | rf m => obtain ⟨a, h3, rfl⟩ := h2; exact ⟨a, h3, rfl⟩
  exact ⟨er.less (fun a z => z.elim id fun z => (nv a z).elim) (fun a z => (nv a z).elim), fun i j a h => (start_no ws n i h).elim, fun a z => (nv a z).elim⟩
theorem sst_stp {M M' : List Addr} {H H' : Hp} {W W' : Addr → Prop} (s : SSt W M H W' M' H') (h : ∀ a, ¬ W a) : Stp M H M' H' := ⟨s.pre, s.new, fun a o n e => s.fr a o n (h a) e⟩
def SemH (K : PySem.W.Frag) (gl : Nat → Option D) (cf : Cf) (W : Nat) (h : Hd) (b : Ss) : TS := fun D σ H => ∃ M Z st env e1 w st', SRl K M Z H st σ env ∧ bindT h.tg (.tuple [.none, .none]) env = some e1 ∧
  heardR h (execs gl cf W b e1 st) (execX gl cf W h.q b e1 st) = some (w, st') ∧ RPost K M Z H (OwW σ env) st' w D.rt
def SemM (K : PySem.W.Frag) (gl : Nat → Option D) (cf : Cf) (W : Nat) (h : Hm) (b : Ss) : TS := fun D σ H => ∃ M Z st env e1 w st', SRl K M Z H st σ env ∧ bindT h.tg h.d0 env = some e1 ∧
  heardM h (execs gl cf W b e1 st) (fun q => execX gl cf W q b e1 st) = some (w, st') ∧ RPost K M Z H (OwW σ env) st' w D.rt
theorem body_ok {k i : Nat} {N : List Str} {F : Fn} {np : Nat} (hP : P[i]? = some F) (hnp : np = F.np) (hnn : N.length = F.nn) (hle : F.np ≤ F.nn) {vs : List V} {H : Hp} {Q : VK} {E : XK} (h : spF K (run gl P W (k + 1) i) np vs H Q E) :
    SemS K (execs gl (run gl P W k) W F.body) { nx := fun _ H' => Q .non H', rt := Q } (L2.start N vs) H ∨ (∃ h b, F.body = .cons (.hrd h b) .nil ∧ 2 ≤ k ∧ SemH K gl (run gl P W k) W h b { nx := fun _ H' => Q .non H', rt := Q } (L2.start N vs) H) ∨ ∃ h b, F.body = .cons (.hrm h b) .nil ∧ 2 ≤ k ∧ SemM K gl (run gl P W k) W h b { nx := fun _ H' => Q .non H', rt := Q } (L2.start N vs) H := by
  obtain ⟨hl, M, U, st, ws, w, st', so, ra, e, q⟩ := h
  obtain ⟨F', h1, h2, h3⟩ := run_succ hP e
  rw [hP] at h1
  cases h1
  have hs := start_ok (N := N) (n := F.nn - F.np) so ra (by rw [hnn, h2]; omega)
  have nw : ∀ a, ¬ OwW (L2.start N vs) (ws.map slotOf ++ List.replicate (F.nn - F.np) .no) a := fun a ⟨j, x, h, _⟩ => start_no ws _ j ⟨x, .inl h⟩
  have hrt : ∀ (w : Vl) (s1 : Sto), EPost K M U H s1 w Q → RPost K M U H (OwW (L2.start N vs) (ws.map slotOf ++ List.replicate (F.nn - F.np) .no)) s1 w Q := fun w s1 q => by
    cases w with
    | d x => exact fun v H' M' s so r => q v H' M' (sst_stp s nw) so r
    | fr x => exact fun a H' M' s h so r => q a H' M' (sst_stp s nw) (h.elim (fun z => (nw a z).elim) id) so r
    | rf n => exact fun a H' M' s so r => q a H' M' (sst_stp s nw) so r
  rcases outB_eq h3 with h3 | ⟨hh, b, e1, hb, hn, h4, h5⟩ | ⟨hh, b, e1, hb, hn, h4, h5⟩
  rotate_left
  · exact .inr (.inl ⟨hh, b, hb, (nd_le hn).2, M, U, st, _, e1, w, st', hs, h4, h5, hrt w st' q⟩)
  · exact .inr (.inr ⟨hh, b, hb, (nd_le hn).2, M, U, st, _, e1, w, st', hs, h4, h5, hrt w st' q⟩)
  left
  cases hx : execs gl (run gl P W k) W F.body (ws.map slotOf ++ List.replicate (F.nn - F.np) .no) st with
  | none => rw [hx] at h3; cases h3
  | some p =>
    obtain ⟨fl, env', s1⟩ := p
    rw [hx] at h3
    refine ⟨M, U, st, _, fl, env', s1, hs, hx, ?_⟩
    cases fl with
    | nx =>
      cases h3
      exact fun M' H' σ' s l r => q _ H' M' (sst_stp s nw) (r.er.sto.less fun _ z => .inl z) .non
    | bk => cases h3
    | ct => cases h3
    | rt u =>
      cases h3
      exact hrt w _ q
end
end Pi

end
section
set_option Elab.async false
set_option linter.all false
set_option maxRecDepth 100000
set_option maxHeartbeats 4000000
namespace Pi
def Lo {α : Type} (a b : Option α) : Prop := ∀ x, a = some x → b = some x
theorem Lo.rfl {α : Type} {a : Option α} : Lo a a := fun _ h => h
theorem Lo.none {α : Type} {a : Option α} : Lo .none a := fun _ h => nomatch h
theorem Lo.bnd {α β : Type} {r r' : Option (α × Sto)} {k k' : α → Sto → Option (β × Sto)} (h : Lo r r') (g : ∀ a s, Lo (k a s) (k' a s)) : Lo (bnd r k) (bnd r' k') := fun x e => by
  obtain ⟨a, s, e1, e2⟩ := bnd_eq e
  rw [h _ e1]
  exact g a s _ e2
theorem Lo.ite {α : Type} {c : Prop} [Decidable c] {a a' b b' : Option α} (h : Lo a a') (g : Lo b b') : Lo (if c then a else b) (if c then a' else b') := by
  by_cases q : c
  · rw [if_pos q, if_pos q]; exact h
  · rw [if_neg q, if_neg q]; exact g
theorem Lo.toD {r r' : Option (Vl × Sto)} (h : Lo r r') : Lo (toD r) (toD r') := Lo.bnd h fun _ _ => Lo.rfl
theorem Lo.bor {e : E} {r r' : Option (Vl × Sto)} {env : Ev} {st : Sto} (h : Lo r r') : Lo (bor e r env st) (bor e r' env st) := by
  cases e with
  | v i => exact Lo.rfl
  | _ => exact Lo.toD h
theorem Lo.tru {r r' : Option (D × Sto)} (h : Lo r r') : Lo (tru r) (tru r') := Lo.bnd h fun _ _ => Lo.rfl
theorem turns_mono {bd : D → Ev → Option Ev} {tt tt' : Ev → Sto → Option (Bool × Sto)} {el el' : Ev → Sto → Option (D × Sto)} (h1 : ∀ e s, Lo (tt e s) (tt' e s)) (h2 : ∀ e s, Lo (el e s) (el' e s)) (env : Ev) : ∀ (xs acc : List D) (st : Sto), Lo (turns bd tt el env xs acc st) (turns bd tt' el' env xs acc st)
  | [], acc, st => Lo.rfl
  | x :: xs, acc, st => by
    unfold turns
    cases bd x env with
    | none => exact Lo.none
    | some e1 =>
      refine Lo.bnd (h1 _ _) fun b s => Lo.ite (Lo.bnd (h2 _ _) fun y s2 => Lo.ite (turns_mono h1 h2 env xs _ _) Lo.none) (turns_mono h1 h2 env xs _ _)
section
variable {gl : Nat → Option D} {cf cf' : Cf}
mutual
theorem evM (h : ∀ i ws st, Lo (cf i ws st) (cf' i ws st)) : ∀ (e : E) (env : Ev) (st : Sto), Lo (ev gl cf e env st) (ev gl cf' e env st)
  | .non, env, st => Lo.rfl
  | .bl b, env, st => Lo.rfl
  | .int i, env, st => Lo.rfl
  | .str s, env, st => Lo.rfl
  | .v i, env, st => Lo.rfl
  | .g i, env, st => Lo.rfl
  | .tup es, env, st => Lo.bnd (evsM h es env st) fun _ _ => Lo.rfl
  | .lst es, env, st => Lo.bnd (evsM h es env st) fun _ _ => Lo.rfl
  | .bin op a b, env, st => Lo.bnd (Lo.bor (evM h a _ _)) fun _ _ => Lo.bnd (Lo.bor (evM h b _ _)) fun _ _ => Lo.rfl
  | .neg a, env, st => Lo.bnd (Lo.bor (evM h a _ _)) fun _ _ => Lo.rfl
  | .cmp op a b, env, st => Lo.bnd (Lo.bor (evM h a _ _)) fun _ _ => Lo.bnd (Lo.bor (evM h b _ _)) fun _ _ => Lo.rfl
  | .isN a, env, st => Lo.bnd (Lo.bor (evM h a _ _)) fun _ _ => Lo.rfl
  | .isnN a, env, st => Lo.bnd (Lo.bor (evM h a _ _)) fun _ _ => Lo.rfl
  | .and a b, env, st => Lo.bnd (Lo.toD (evM h a _ _)) fun _ _ => Lo.bnd Lo.rfl fun _ _ => Lo.ite (evM h b _ _) Lo.rfl
  | .or a b, env, st => Lo.bnd (evM h a _ _) fun _ _ => Lo.bnd Lo.rfl fun _ _ => Lo.bnd Lo.rfl fun _ _ => Lo.ite Lo.rfl (evM h b _ _)
  | .not a, env, st => Lo.bnd (Lo.tru (Lo.bor (evM h a _ _))) fun _ _ => Lo.rfl
  | .ite c a b, env, st => Lo.bnd (Lo.tru (Lo.bor (evM h c _ _))) fun _ _ => Lo.ite (evM h a _ _) (evM h b _ _)
  | .ix a i, env, st => Lo.bnd (Lo.bor (evM h a _ _)) fun _ _ => Lo.bnd (Lo.bor (evM h i _ _)) fun _ _ => Lo.rfl
  | .bx i k, env, st => Lo.bnd (Lo.bor (evM h k _ _)) fun _ _ => Lo.rfl
  | .sl a lo hi, env, st => Lo.bnd (Lo.bor (evM h a _ _)) fun _ _ => Lo.bnd (evoM h lo _ _) fun _ _ => Lo.bnd (evoM h hi _ _) fun _ _ => Lo.rfl
  | .exn n f a, env, st => Lo.bnd (h _ _ _) fun _ _ => Lo.bnd (Lo.toD (evM h a _ _)) fun _ _ => Lo.rfl
  | .exk n f a, env, st => Lo.bnd (h _ _ _) fun _ _ => Lo.bnd (Lo.toD (evM h a _ _)) fun _ _ => Lo.rfl
  | .exz n f, env, st => Lo.bnd (h _ _ _) fun _ _ => Lo.rfl
  | .xis own z xs a, env, st => Lo.bnd (Lo.bor (evM h a _ _)) fun _ _ => Lo.rfl
  | .xfd f xs a, env, st => Lo.bnd (Lo.bor (evM h a _ _)) fun _ _ => Lo.rfl
  | .call f es, env, st => Lo.bnd (evaM h es _ _) fun _ _ => h _ _ _
  | .f1 f a, env, st => Lo.bnd (Lo.bor (evM h a _ _)) fun _ _ => Lo.rfl
  | .f2 f a b, env, st => Lo.bnd (Lo.bor (evM h a _ _)) fun _ _ => Lo.bnd (Lo.bor (evM h b _ _)) fun _ _ => Lo.rfl
  | .dnew t, env, st => Lo.rfl
  | .isi a ts, env, st => Lo.bnd (Lo.bor (evM h a _ _)) fun _ _ => Lo.rfl
  | .lc vs e t it c, env, st => Lo.bnd (eviM h it _ _) fun _ _ => Lo.bnd (turns_mono (fun e1 s => evcM h c e1 s) (fun e1 s => Lo.toD (evM h e e1 s)) _ _ _ _) fun _ _ => Lo.rfl
theorem evsM (h : ∀ i ws st, Lo (cf i ws st) (cf' i ws st)) : ∀ (es : Es) (env : Ev) (st : Sto), Lo (evs gl cf es env st) (evs gl cf' es env st)
  | .nil, env, st => Lo.rfl
  | .cons e es, env, st => Lo.bnd (Lo.toD (evM h e _ _)) fun _ _ => Lo.bnd (evsM h es _ _) fun _ _ => Lo.rfl
  | .star e es, env, st => Lo.bnd (Lo.bor (evM h e _ _)) fun _ _ => Lo.bnd Lo.rfl fun _ _ => Lo.bnd (evsM h es _ _) fun _ _ => Lo.rfl
theorem evaM (h : ∀ i ws st, Lo (cf i ws st) (cf' i ws st)) : ∀ (es : Es) (env : Ev) (st : Sto), Lo (eva gl cf es env st) (eva gl cf' es env st)
  | .nil, env, st => Lo.rfl
  | .cons e es, env, st => Lo.bnd (evM h e _ _) fun _ _ => Lo.bnd (evaM h es _ _) fun _ _ => Lo.rfl
  | .star _ _, _, _ => Lo.rfl
theorem evoM (h : ∀ i ws st, Lo (cf i ws st) (cf' i ws st)) : ∀ (o : Oe) (env : Ev) (st : Sto), Lo (evo gl cf o env st) (evo gl cf' o env st)
  | .no, env, st => Lo.rfl
  | .yes e, env, st => Lo.bnd (Lo.bor (evM h e _ _)) fun _ _ => Lo.rfl
theorem evcM (h : ∀ i ws st, Lo (cf i ws st) (cf' i ws st)) : ∀ (o : Oe) (env : Ev) (st : Sto), Lo (evc gl cf o env st) (evc gl cf' o env st)
  | .no, env, st => Lo.rfl
  | .yes e, env, st => Lo.tru (Lo.bor (evM h e _ _))
theorem eviM (h : ∀ i ws st, Lo (cf i ws st) (cf' i ws st)) : ∀ (o : It) (env : Ev) (st : Sto), Lo (evi gl cf o env st) (evi gl cf' o env st)
  | .of e, env, st => Lo.bnd (Lo.bor (evM h e _ _)) fun _ _ => Lo.rfl
  | .rng1 a, env, st => Lo.bnd (Lo.bor (evM h a _ _)) fun _ _ => Lo.rfl
  | .rng2 a b, env, st => Lo.bnd (Lo.bor (evM h a _ _)) fun _ _ => Lo.bnd (Lo.bor (evM h b _ _)) fun _ _ => Lo.rfl
  | .enm a, env, st => Lo.bnd (Lo.bor (evM h a _ _)) fun _ _ => Lo.rfl
  | .zip a b, env, st => Lo.bnd (Lo.bor (evM h a _ _)) fun _ _ => Lo.bnd (Lo.bor (evM h b _ _)) fun _ _ => Lo.rfl
end
end
end Pi

end
section
set_option Elab.async false
set_option linter.all false
set_option maxRecDepth 100000
set_option maxHeartbeats 4000000
namespace Pi
theorem forL_mono {bd : D → Ev → Option Ev} {b b' : Ev → Sto → SR} (h : ∀ e s, Lo (b e s) (b' e s)) : ∀ (xs : List D) (env : Ev) (st : Sto), Lo (forL bd b xs env st) (forL bd b' xs env st)
  | [], env, st => Lo.rfl
  | x :: xs, env, st => fun r q => by
    unfold forL at q ⊢
    cases hb : bd x env with
    | none => simp only [hb] at q; cases q
    | some e1 =>
      simp only [hb] at q ⊢
      cases hc : b e1 st with
      | none => simp only [hc] at q; cases q
      | some p =>
        obtain ⟨f, e2, s2⟩ := p
        simp only [hc] at q
        simp only [h _ _ _ hc]
        cases f with
        | nx => exact forL_mono h xs _ _ _ q
        | ct => exact forL_mono h xs _ _ _ q
        | bk => exact q
        | rt w => exact q
section
variable {gl : Nat → Option D} {cf cf' : Cf}
theorem Lo.sbnd {a a' : SR} {k k' : Ev → Sto → SR} (h : Lo a a') (g : ∀ e s, Lo (k e s) (k' e s)) : Lo (sbnd a k) (sbnd a' k') := fun r q => by
  cases ha : a with
  | none => rw [ha] at q; cases q
  | some p =>
    obtain ⟨f, e, s⟩ := p
    rw [ha] at q
    rw [h _ ha]
    cases f with
    | nx => exact g _ _ _ q
    | ct => exact q
    | bk => exact q
    | rt w => exact q
mutual
theorem exM (h : ∀ i ws st, Lo (cf i ws st) (cf' i ws st)) (W : Nat) : ∀ (s : S) (env : Ev) (st : Sto), Lo (exec gl cf W s env st) (exec gl cf' W s env st)
  | .asg t e, env, st => fun r q => by
    unfold exec at q ⊢
    cases ha : toD (ev gl cf e env st) with
    | none => simp only [ha] at q; cases q
    | some p => simp only [ha] at q; simp only [Lo.toD (evM h e env st) _ ha]; exact q
  | .own i e, env, st => fun r q => by
    unfold exec at q ⊢
    cases ha : ev gl cf e env st with
    | none => simp only [ha] at q; cases q
    | some p => simp only [ha] at q; simp only [evM h e env st _ ha]; exact q
  | .mv i j, env, st => Lo.rfl
  | .fz is s, env, st => fun r q => by
    unfold exec at q ⊢
    cases ha : freeze env is with
    | none => simp only [ha] at q; cases q
    | some p => simp only [ha] at q ⊢; exact exM h W s _ _ _ q
  | .stix i k e, env, st => fun r q => by
    unfold exec at q ⊢
    cases ha : toD (ev gl cf e env st) with
    | none => simp only [ha] at q; cases q
    | some p =>
      obtain ⟨y, s⟩ := p
      simp only [ha] at q
      simp only [Lo.toD (evM h e env st) _ ha]
      cases hb : bor k (ev gl cf k env s) env s with
      | none => simp only [hb] at q; cases q
      | some p => simp only [hb] at q; simp only [Lo.bor (evM h k env s) _ hb]; exact q
  | .app i e, env, st => fun r q => by
    unfold exec at q ⊢
    cases ha : toD (ev gl cf e env st) with
    | none => simp only [ha] at q; cases q
    | some p => simp only [ha] at q; simp only [Lo.toD (evM h e env st) _ ha]; exact q
  | .ext i e, env, st => fun r q => by
    unfold exec at q ⊢
    cases ha : ev gl cf e env st with
    | none => simp only [ha] at q; cases q
    | some p => simp only [ha] at q; simp only [evM h e env st _ ha]; exact q
  | .par i oi e j oj f, env, st => fun r q => by
    unfold exec at q ⊢
    cases ha : ev gl cf e env st with
    | none => simp only [ha] at q; cases q
    | some p =>
      obtain ⟨w, s⟩ := p
      simp only [ha] at q
      simp only [evM h e env st _ ha]
      cases hb : ev gl cf f env s with
      | none => simp only [hb] at q; cases q
      | some p => simp only [hb] at q; simp only [evM h f env s _ hb]; exact q
  | .ex e, env, st => fun r q => by
    unfold exec at q ⊢
    cases ha : ev gl cf e env st with
    | none => simp only [ha] at q; cases q
    | some p => simp only [ha] at q; simp only [evM h e env st _ ha]; exact q
  | .ret e, env, st => fun r q => by
    unfold exec at q ⊢
    cases ha : ev gl cf e env st with
    | none => simp only [ha] at q; cases q
    | some p => simp only [ha] at q; simp only [evM h e env st _ ha]; exact q
  | .reto i, env, st => Lo.rfl
  | .ret0, env, st => Lo.rfl
  | .rbox es, env, st => fun r q => by
    unfold exec at q ⊢
    cases ha : evs gl cf es env st with
    | none => simp only [ha] at q; cases q
    | some p => simp only [ha] at q; simp only [evsM h es env st _ ha]; exact q
  | .ite c a b, env, st => fun r q => by
    unfold exec at q ⊢
    cases ha : tru (bor c (ev gl cf c env st) env st) with
    | none => simp only [ha] at q; cases q
    | some p =>
      obtain ⟨k, s⟩ := p
      simp only [ha] at q
      simp only [Lo.tru (Lo.bor (evM h c env st)) _ ha]
      cases k with
      | true => exact exsM h W a _ _ _ q
      | false => exact exsM h W b _ _ _ q
  | .for' t it b, env, st => fun r q => by
    unfold exec at q ⊢
    cases ha : evi gl cf it (hideB (brw it) (lock (lockOf it env) env)) st with
    | none => simp only [ha] at q; cases q
    | some p =>
      obtain ⟨xs, s⟩ := p
      simp only [ha] at q
      simp only [eviM h it _ _ _ ha]
      cases hf : forL (bindT t) (fun e1 s1 => execs gl cf W b e1 s1) xs (lock (lockOf it env) env) s with
      | none => rw [hf] at q; cases hl : lockOf it env <;> (rw [hl] at q; cases q)
      | some p =>
        rw [hf] at q
        rw [forL_mono (fun e s => exsM h W b e s) _ _ _ _ hf]
        exact q
  | .brk, env, st => Lo.rfl
  | .cnt, env, st => Lo.rfl
  | .pass, env, st => Lo.rfl
  | .rse _ _ _, env, st => Lo.rfl
  | .hrd _ _, env, st => Lo.rfl
  | .hrm _ _, env, st => Lo.rfl
  | .never, env, st => Lo.rfl
theorem exsM (h : ∀ i ws st, Lo (cf i ws st) (cf' i ws st)) (W : Nat) : ∀ (s : Ss) (env : Ev) (st : Sto), Lo (execs gl cf W s env st) (execs gl cf' W s env st)
  | .nil, env, st => Lo.rfl
  | .cons s ss, env, st => Lo.sbnd (exM h W s env st) fun e s => exsM h W ss e s
end
theorem out_mono {a b : SR} (h : Lo a b) : Lo (out a) (out b) := fun r q => by
  cases ha : a with
  | none => rw [ha] at q; cases q
  | some p => rw [ha] at q; rw [h _ ha]; exact q
theorem forX_up {bd : D → Ev → Option Ev} {b b' : Ev → Sto → SR} {bx bx' : Ev → Sto → Option (D × Sto)} (h1 : ∀ e s, Lo (b e s) (b' e s)) (h2 : ∀ e s p, bx e s = some p → b e s = none → bx' e s = some p ∧ b' e s = none) :
    ∀ (xs : List D) (env : Ev) (st : Sto) (p : D × Sto), forX bd b bx xs env st = some p → forX bd b' bx' xs env st = some p ∧ forL bd b' xs env st = none
  | [], _, _, _, h => by cases h
  | x :: xs, env, st, p, h => by
    unfold forX at h ⊢
    unfold forL
    cases hb : bd x env with
    | none => simp only [hb] at h; cases h
    | some e1 =>
      simp only [hb] at h ⊢
      cases hc : b e1 st with
      | none =>
        simp only [hc] at h
        obtain ⟨q1, q2⟩ := h2 e1 st p h hc
        simp only [q2]
        exact ⟨q1, trivial⟩
      | some r =>
        obtain ⟨f, e2, s2⟩ := r
        simp only [hc] at h
        simp only [h1 e1 st _ hc]
        cases f with
        | nx => exact forX_up h1 h2 xs e2 s2 p h
        | ct => exact forX_up h1 h2 xs e2 s2 p h
        | bk => cases h
        | rt w => cases h
theorem forX_no {bd : D → Ev → Option Ev} {b b' : Ev → Sto → SR} {bx by' : Ev → Sto → Option (D × Sto)} (h1 : ∀ e s, Lo (b e s) (b' e s)) (h2 : ∀ e s p, bx e s = some p → b e s = none → b' e s = none ∧ by' e s = none) :
    ∀ (xs : List D) (env : Ev) (st : Sto) (p : D × Sto), forX bd b bx xs env st = some p → forX bd b' by' xs env st = none
  | [], _, _, _, h => by cases h
  | x :: xs, env, st, p, h => by
    unfold forX at h ⊢
    cases hb : bd x env with
    | none => simp only [hb] at h; cases h
    | some e1 =>
      simp only [hb] at h ⊢
      cases hc : b e1 st with
      | none =>
        simp only [hc] at h
        obtain ⟨q1, q2⟩ := h2 e1 st p h hc
        simp only [q1]
        exact q2
      | some r =>
        obtain ⟨f, e2, s2⟩ := r
        simp only [hc] at h
        simp only [h1 e1 st _ hc]
        cases f with
        | nx => exact forX_no h1 h2 xs e2 s2 p h
        | ct => exact forX_no h1 h2 xs e2 s2 p h
        | bk => cases h
        | rt w => cases h
theorem evX_bor {q : Nat} {a : E} {env env' : Ev} {st st' : Sto} {p : D × Sto} (h : evX gl cf q a env st = some p) : bor a none env' st' = none := by
  cases a with
  | v i => cases h
  | _ => rfl
theorem evXM (h : ∀ i ws st, Lo (cf i ws st) (cf' i ws st)) (hx : ∀ f q ws st p, f < 1000 → cf (f + 1000 * (q + 1)) ws st = some p → cf' f ws st = none ∧ ∀ x, x ≠ q → cf' (f + 1000 * (x + 1)) ws st = none) (q : Nat) : ∀ (e : E) (env : Ev) (st : Sto) (p : D × Sto), evX gl cf q e env st = some p → evX gl cf' q e env st = some p ∧ ev gl cf' e env st = none ∧ ∀ x, x ≠ q → evX gl cf' x e env st = none
  | .call f es, env, st, p, e => by
    unfold evX at e ⊢
    split at e
    · rename_i hf
      rw [if_pos hf]
      obtain ⟨ws, s, e1, e2⟩ := bnd_eq e
      obtain ⟨w, s2, e3, e4⟩ := bnd_eq e2
      unfold ev
      rw [evaM h es env st _ e1, bnd_some, bnd_some]
      obtain ⟨x1, x2⟩ := hx f q ws s _ hf e3
      refine ⟨Lo.toD (h _ _ _) _ e2, x1, fun x hq => ?_⟩
      rw [if_pos hf, bnd_some, x2 x hq]; rfl
    · cases e
  | .f1 f a, env, st, p, e => by
    cases f with
    | len =>
      have e : evX gl cf q a env st = some p := e
      obtain ⟨h1, h2, h3⟩ := evXM h hx q a env st p e
      refine ⟨h1, ?_, fun x hq => h3 x hq⟩
      unfold ev
      rw [h2, evX_bor e]; rfl
    | _ => cases e
  | .cmp o a b, env, st, p, e => by
    have e : evX gl cf q a env st = some p := e
    obtain ⟨h1, h2, h3⟩ := evXM h hx q a env st p e
    refine ⟨h1, ?_, fun x hq => h3 x hq⟩
    unfold ev
    rw [h2, evX_bor e]; rfl
  | .ix a b, env, st, p, e => by
    have e : evX gl cf q a env st = some p := e
    obtain ⟨h1, h2, h3⟩ := evXM h hx q a env st p e
    refine ⟨h1, ?_, fun x hq => h3 x hq⟩
    unfold ev
    rw [h2, evX_bor e]; rfl
  | .sl a b c, env, st, p, e => by
    have e : evX gl cf q a env st = some p := e
    obtain ⟨h1, h2, h3⟩ := evXM h hx q a env st p e
    refine ⟨h1, ?_, fun x hq => h3 x hq⟩
    unfold ev
    rw [h2, evX_bor e]; rfl
  | .isN a, env, st, p, e => by
    have e : evX gl cf q a env st = some p := e
    obtain ⟨h1, h2, h3⟩ := evXM h hx q a env st p e
    refine ⟨h1, ?_, fun x hq => h3 x hq⟩
    unfold ev
    rw [h2, evX_bor e]; rfl
  | .non, _, _, _, e => by cases e
  | .bl _, _, _, _, e => by cases e
  | .int _, _, _, _, e => by cases e
  | .str _, _, _, _, e => by cases e
  | .v _, _, _, _, e => by cases e
  | .g _, _, _, _, e => by cases e
  | .tup _, _, _, _, e => by cases e
  | .lst _, _, _, _, e => by cases e
  | .bin _ _ _, _, _, _, e => by cases e
  | .neg _, _, _, _, e => by cases e
  | .isnN _, _, _, _, e => by cases e
  | .and _ _, _, _, _, e => by cases e
  | .or _ _, _, _, _, e => by cases e
  | .not _, _, _, _, e => by cases e
  | .ite c a b, env, st, p, e => by
    have e : bnd (tru (bor c (ev gl cf c env st) env st)) (fun k s => if k then evX gl cf q a env s else evX gl cf q b env s) = some p := e
    obtain ⟨k, s, e1, e2⟩ := bnd_eq e
    have e3 : tru (bor c (ev gl cf' c env st) env st) = some (k, s) := Lo.tru (Lo.bor (evM h c _ _)) _ e1
    cases k with
    | true =>
      obtain ⟨h1, h2, h3⟩ := evXM h hx q a env s p e2
      refine ⟨?_, ?_, fun x hq => ?_⟩
      · show bnd (tru (bor c (ev gl cf' c env st) env st)) (fun k s => if k then evX gl cf' q a env s else evX gl cf' q b env s) = _
        rw [e3, bnd_some]; exact h1
      · show bnd (tru (bor c (ev gl cf' c env st) env st)) (fun k s => if k then ev gl cf' a env s else ev gl cf' b env s) = _
        rw [e3, bnd_some]; exact h2
      · show bnd (tru (bor c (ev gl cf' c env st) env st)) (fun k s => if k then evX gl cf' x a env s else evX gl cf' x b env s) = _
        rw [e3, bnd_some]; exact h3 x hq
    | false =>
      obtain ⟨h1, h2, h3⟩ := evXM h hx q b env s p e2
      refine ⟨?_, ?_, fun x hq => ?_⟩
      · show bnd (tru (bor c (ev gl cf' c env st) env st)) (fun k s => if k then evX gl cf' q a env s else evX gl cf' q b env s) = _
        rw [e3, bnd_some]; exact h1
      · show bnd (tru (bor c (ev gl cf' c env st) env st)) (fun k s => if k then ev gl cf' a env s else ev gl cf' b env s) = _
        rw [e3, bnd_some]; exact h2
      · show bnd (tru (bor c (ev gl cf' c env st) env st)) (fun k s => if k then evX gl cf' x a env s else evX gl cf' x b env s) = _
        rw [e3, bnd_some]; exact h3 x hq
  | .bx _ _, _, _, _, e => by cases e
  | .exn _ _ _, _, _, _, e => by cases e
  | .exk _ _ _, _, _, _, e => by cases e
  | .exz _ _, _, _, _, e => by cases e
  | .xis _ _ _ _, _, _, _, e => by cases e
  | .xfd _ _ _, _, _, _, e => by cases e
  | .f2 _ _ _, _, _, _, e => by cases e
  | .isi _ _, _, _, _, e => by cases e
  | .dnew _, _, _, _, e => by cases e
  | .lc _ _ _ _ _, _, _, _, e => by cases e
theorem eviX_env {q : Nat} {it : It} {env : Ev} {st : Sto} {p : D × Sto} (e : eviX gl cf q it env st = some p) : hideB (brw it) (lock (lockOf it env) env) = env := by
  cases it with
  | of a => cases a with
    | v i => cases e
    | _ => rfl
  | enm a => cases a with
    | v i => cases e
    | _ => rfl
  | _ => cases e
theorem eviXM (h : ∀ i ws st, Lo (cf i ws st) (cf' i ws st)) (hx : ∀ f q ws st p, f < 1000 → cf (f + 1000 * (q + 1)) ws st = some p → cf' f ws st = none ∧ ∀ x, x ≠ q → cf' (f + 1000 * (x + 1)) ws st = none) (q : Nat) (it : It) (env env' : Ev) (st : Sto) (p : D × Sto) (e : eviX gl cf q it env st = some p) (hn : env' = env) :
    eviX gl cf' q it env st = some p ∧ evi gl cf' it env' st = none ∧ ∀ x, x ≠ q → eviX gl cf' x it env st = none := by
  subst hn
  cases it with
  | of a =>
    have e : evX gl cf q a env' st = some p := e
    obtain ⟨h1, h2, h3⟩ := evXM h hx q a env' st p e
    refine ⟨h1, ?_, fun x hq => h3 x hq⟩
    unfold evi
    rw [h2, evX_bor e]; rfl
  | enm a =>
    have e : evX gl cf q a env' st = some p := e
    obtain ⟨h1, h2, h3⟩ := evXM h hx q a env' st p e
    refine ⟨h1, ?_, fun x hq => h3 x hq⟩
    unfold evi
    rw [h2, evX_bor e]; rfl
  | _ => cases e
mutual
theorem execSXM (h : ∀ i ws st, Lo (cf i ws st) (cf' i ws st)) (hx : ∀ f q ws st p, f < 1000 → cf (f + 1000 * (q + 1)) ws st = some p → cf' f ws st = none ∧ ∀ x, x ≠ q → cf' (f + 1000 * (x + 1)) ws st = none) (W x : Nat) : ∀ (s : S) (env : Ev) (st : Sto) (p : D × Sto), execSX gl cf W x s env st = some p → execSX gl cf' W x s env st = some p ∧ exec gl cf' W s env st = none ∧ ∀ y, y ≠ x → execSX gl cf' W y s env st = none
  | .rse y c e, env, st, p, q => by
    unfold execSX at q ⊢
    split at q
    · rename_i hy
      rw [if_pos hy]
      exact ⟨Lo.toD (evM h e env st) _ q, by unfold exec; rfl, fun z hz => if_neg fun h => hz (h.symm.trans hy)⟩
    · cases q
  | .asg t e, env, st, p, q => by
    obtain ⟨h1, h2, h3⟩ := evXM h hx x e env st p q
    refine ⟨h1, ?_, h3⟩
    unfold exec
    rw [h2]; rfl
  | .ex e, env, st, p, q => by
    obtain ⟨h1, h2, h3⟩ := evXM h hx x e env st p q
    refine ⟨h1, ?_, h3⟩
    unfold exec
    rw [h2]
  | .ret e, env, st, p, q => by
    obtain ⟨h1, h2, h3⟩ := evXM h hx x e env st p q
    refine ⟨h1, ?_, h3⟩
    unfold exec
    rw [h2]
  | .fz is s, env, st, p, q => by
    unfold execSX at q ⊢
    unfold exec
    cases hf : freeze env is with
    | none => simp only [hf] at q; cases q
    | some e1 =>
      simp only [hf] at q ⊢
      exact execSXM h hx W x s e1 st p q
  | .ite c a b, env, st, p, q => by
    unfold execSX at q ⊢
    unfold exec
    cases hc : tru (bor c (ev gl cf c env st) env st) with
    | none => simp only [hc] at q; cases q
    | some r =>
      obtain ⟨k, s⟩ := r
      simp only [Lo.tru (Lo.bor (evM h c env st)) _ hc]
      simp only [hc] at q
      cases k with
      | true => exact execXM h hx W x a env s p q
      | false => exact execXM h hx W x b env s p q
  | .for' t it b, env, st, p, q => by
    unfold execSX at q ⊢
    unfold exec
    by_cases dk : dkI it = true
    · rw [if_pos dk] at q; cases q
    simp only [if_neg dk] at q ⊢
    cases hi : evi gl cf it (hideB (brw it) (lock (lockOf it env) env)) st with
    | none =>
      simp only [hi] at q
      have hb : hideB (brw it) (lock (lockOf it env) env) = env := eviX_env q
      obtain ⟨h1, h2, h3⟩ := eviXM h hx x it env _ st p q hb
      simp only [h2]
      exact ⟨h1, trivial, h3⟩
    | some r =>
      obtain ⟨xs, s⟩ := r
      simp only [eviM h it _ _ _ hi]
      simp only [hi] at q
      obtain ⟨q1, q2⟩ := forX_up (bd := bindT t) (fun e s => exsM h W b e s) (fun e s p hx2 _ => let z := execXM h hx W x b e s p hx2; ⟨z.1, z.2.1⟩) xs _ s p q
      refine ⟨q1, ?_, fun y hy => forX_no (bd := bindT t) (fun e s => exsM h W b e s) (fun e s p hx2 _ => let z := execXM h hx W x b e s p hx2; ⟨z.2.1, z.2.2 y hy⟩) xs _ s p q⟩
      rw [q2]
      cases lockOf it env <;> rfl
  | .own _ _, _, _, _, q => by cases q
  | .mv _ _, _, _, _, q => by cases q
  | .stix _ _ _, _, _, _, q => by cases q
  | .app _ _, _, _, _, q => by cases q
  | .ext _ _, _, _, _, q => by cases q
  | .par _ _ _ _ _ _, _, _, _, q => by cases q
  | .reto _, _, _, _, q => by cases q
  | .ret0, _, _, _, q => by cases q
  | .rbox _, _, _, _, q => by cases q
  | .brk, _, _, _, q => by cases q
  | .cnt, _, _, _, q => by cases q
  | .pass, _, _, _, q => by cases q
  | .never, _, _, _, q => by cases q
  | .hrd _ _, _, _, _, q => by cases q
  | .hrm _ _, _, _, _, q => by cases q
theorem execXM (h : ∀ i ws st, Lo (cf i ws st) (cf' i ws st)) (hx : ∀ f q ws st p, f < 1000 → cf (f + 1000 * (q + 1)) ws st = some p → cf' f ws st = none ∧ ∀ x, x ≠ q → cf' (f + 1000 * (x + 1)) ws st = none) (W x : Nat) : ∀ (ss : Ss) (env : Ev) (st : Sto) (p : D × Sto), execX gl cf W x ss env st = some p → execX gl cf' W x ss env st = some p ∧ execs gl cf' W ss env st = none ∧ ∀ y, y ≠ x → execX gl cf' W y ss env st = none
  | .nil, _, _, _, q => by cases q
  | .cons s ss, env, st, p, q => by
    unfold execX at q ⊢
    unfold execs
    cases hs : exec gl cf W s env st with
    | none =>
      simp only [hs] at q
      obtain ⟨q1, q2, q3⟩ := execSXM h hx W x s env st p q
      simp only [q2]
      exact ⟨q1, rfl, q3⟩
    | some r =>
      obtain ⟨f, e1, s1⟩ := r
      simp only [hs] at q
      simp only [exM h W s env st _ hs]
      cases f with
      | nx => exact execXM h hx W x ss e1 s1 p q
      | bk => cases q
      | ct => cases q
      | rt w => cases q
end
theorem run_of {P : List Fn} {W k i : Nat} {F : Fn} {ws : List Vl} {st : Sto} {r : Vl × Sto} {cf : Cf} (hP : P[i]? = some F) (hn : ws.length = F.np) (h : ∀ i ws st, Lo (cf i ws st) (run gl P W k i ws st))
    (e : out (execs gl cf W F.body (ws.map slotOf ++ List.replicate (F.nn - F.np) .no) st) = some r) : run gl P W (k + 1) i ws st = some r := by
  have e' := out_mono (exsM (gl := gl) h W F.body (ws.map slotOf ++ List.replicate (F.nn - F.np) .no) st) _ e
  unfold run
  rw [hP]
  simp only []
  rw [if_pos hn]
  exact outB_of e'
theorem heard_mono {h : Hd} {r r' : SR} {x x' : Option (D × Sto)} (h1 : Lo r r') (h2 : ∀ p, x = some p → x' = some p ∧ r' = none) : Lo (heardR h r x) (heardR h r' x') := fun w q => by
  cases hr : r with
  | some p =>
    rw [hr] at q; rw [h1 _ hr]
    obtain ⟨f, e, s⟩ := p
    cases f <;> exact q
  | none =>
    rw [hr] at q
    cases hx : x with
    | none => rw [hx] at q; cases q
    | some p =>
      obtain ⟨e1, e2⟩ := h2 p hx
      rw [e1, e2]
      rw [hx] at q
      exact q
theorem first_mono {x x' : Nat → Option (D × Sto)} (h : ∀ q p, x q = some p → x' q = some p ∧ ∀ y, y ≠ q → x' y = none) : ∀ (hs : List Hh) (w : Vl × Sto), firstX x hs = some w → firstX x' hs = some w ∧ ∃ q p, x q = some p
  | [], _, e => by cases e
  | g :: gs, w, e => by
    unfold firstX at e ⊢
    cases hg : x g.q with
    | some p =>
      simp only [hg] at e
      simp only [(h _ _ hg).1]
      exact ⟨e, _, _, hg⟩
    | none =>
      simp only [hg] at e
      obtain ⟨h1, q, p, h2⟩ := first_mono h gs w e
      have hq : g.q ≠ q := fun z => by rw [z, h2] at hg; cases hg
      simp only [(h q p h2).2 _ hq]
      exact ⟨h1, q, p, h2⟩
theorem firstW_mono {x x' : Nat → Option (D × Sto)} (h : ∀ q p, x q = some p → x' q = some p ∧ ∀ y, y ≠ q → x' y = none) : ∀ (hs : List Hh) (w : Vl × Sto), firstW x hs = some w → firstW x' hs = some w ∧ ∃ q p, x q = some p
  | [], _, e => by cases e
  | g :: gs, w, e => by
    unfold firstW at e ⊢
    cases hg : x g.q with
    | some p =>
      simp only [hg] at e
      simp only [(h _ _ hg).1]
      exact ⟨e, _, _, hg⟩
    | none =>
      simp only [hg] at e
      obtain ⟨h1, q, p, h2⟩ := firstW_mono h gs w e
      have hq : g.q ≠ q := fun z => by rw [z, h2] at hg; cases hg
      simp only [(h q p h2).2 _ hq]
      exact ⟨h1, q, p, h2⟩
theorem heardM_mono {h : Hm} {r r' : SR} {x x' : Nat → Option (D × Sto)} (h1 : Lo r r') (h2 : ∀ q p, x q = some p → x' q = some p ∧ r' = none ∧ ∀ y, y ≠ q → x' y = none) : Lo (heardM h r x) (heardM h r' x') := fun w q => by
  cases hr : r with
  | some p =>
    rw [hr] at q; rw [h1 _ hr]
    obtain ⟨f, e, s⟩ := p
    cases f <;> exact q
  | none =>
    rw [hr] at q
    cases hw : h.wd with
    | none =>
      have q : firstX x h.hs = some w := by unfold heardM at q; rw [hw] at q; exact q
      obtain ⟨g1, y, p, g2⟩ := first_mono (fun q p e => ⟨(h2 q p e).1, (h2 q p e).2.2⟩) h.hs w q
      rw [(h2 y p g2).2.1]
      unfold heardM
      rw [hw]
      exact g1
    | some z =>
      have q : firstW x h.hs = some w := by unfold heardM at q; rw [hw] at q; exact q
      obtain ⟨g1, y, p, g2⟩ := firstW_mono (fun q p e => ⟨(h2 q p e).1, (h2 q p e).2.2⟩) h.hs w q
      rw [(h2 y p g2).2.1]
      unfold heardM
      rw [hw]
      exact g1
theorem run_hrd {P : List Fn} {W k i : Nat} {F : Fn} {h : Hd} {b : Ss} {ws : List Vl} {st : Sto} {r : Vl × Sto} {e1 : Ev} (hP : P[i]? = some F) (hn : ws.length = F.np) (hb : F.body = .cons (.hrd h b) .nil) (hl : P.length ≤ 1000) (hk : 2 ≤ k)
    (h1 : bindT h.tg (.tuple [.none, .none]) (ws.map slotOf ++ List.replicate (F.nn - F.np) .no) = some e1) (e : heardR h (execs gl (run gl P W k) W b e1 st) (execX gl (run gl P W k) W h.q b e1 st) = some r) : run gl P W (k + 1) i ws st = some r := by
  unfold run
  rw [hP]
  simp only []
  rw [if_pos hn, hb]
  show (if nd P.length k ≤ 1000 then _ else none) = _
  rw [if_pos (nd_of hl hk), h1]
  exact e
theorem run_hrm {P : List Fn} {W k i : Nat} {F : Fn} {h : Hm} {b : Ss} {ws : List Vl} {st : Sto} {r : Vl × Sto} {e1 : Ev} (hP : P[i]? = some F) (hn : ws.length = F.np) (hb : F.body = .cons (.hrm h b) .nil) (hl : P.length ≤ 1000) (hk : 2 ≤ k)
    (h1 : bindT h.tg h.d0 (ws.map slotOf ++ List.replicate (F.nn - F.np) .no) = some e1) (e : heardM h (execs gl (run gl P W k) W b e1 st) (fun q => execX gl (run gl P W k) W q b e1 st) = some r) : run gl P W (k + 1) i ws st = some r := by
  unfold run
  rw [hP]
  simp only []
  rw [if_pos hn, hb]
  show (if nd P.length k ≤ 1000 then _ else none) = _
  rw [if_pos (nd_of hl hk), h1]
  exact e
theorem execX_hrm {cf : Cf} {W x : Nat} {h : Hm} {b : Ss} {env : Ev} {st : Sto} : execX gl cf W x (.cons (.hrm h b) .nil) env st = none := by
  unfold execX exec execSX
  rfl
theorem execX_hrd {cf : Cf} {W x : Nat} {h : Hd} {b : Ss} {env : Ev} {st : Sto} : execX gl cf W x (.cons (.hrd h b) .nil) env st = none := by
  unfold execX exec execSX
  rfl
mutual
theorem run_mono1 {P : List Fn} {W : Nat} : ∀ (k i : Nat) (ws : List Vl) (st : Sto), Lo (run gl P W k i ws st) (run gl P W (k + 1) i ws st)
  | 0, i, ws, st => Lo.none
  | k + 1, i, ws, st => fun r q => by
    have lo : ∀ i ws st, Lo (run gl P W k i ws st) (run gl P W (k + 1) i ws st) := fun i ws st => run_mono1 k i ws st
    cases hP : P[i]? with
    | some F0 =>
      obtain ⟨F, h1, h2, h3⟩ := run_succ hP q
      rcases outB_eq h3 with h3 | ⟨h, b, e1, hb, hn, h4, h5⟩ | ⟨h, b, e1, hb, hn, h4, h5⟩
      · exact run_of h1 h2 lo h3
      · exact run_hrd h1 h2 hb (nd_le hn).1 (Nat.le_succ_of_le (nd_le hn).2) h4 (heard_mono (exsM lo W b e1 st) (fun p hp => let z := execXM lo (fun f q ws st p hf e => run_excl (nd_le hn).1 k f q ws st p hf e) W h.q b e1 st p hp; ⟨z.1, z.2.1⟩) _ h5)
      · exact run_hrm h1 h2 hb (nd_le hn).1 (Nat.le_succ_of_le (nd_le hn).2) h4 (heardM_mono (exsM lo W b e1 st) (fun q p hp => execXM lo (fun f q ws st p hf e => run_excl (nd_le hn).1 k f q ws st p hf e) W q b e1 st p hp) _ h5)
    | none =>
      unfold run at q ⊢
      rw [hP] at q ⊢
      simp only [] at q ⊢
      cases hX : P[i % 1000]? with
      | none =>
        rw [hX] at q
        simp only [] at q ⊢
        split at q
        · rename_i hn
          rw [if_pos ⟨hn.1, by omega⟩]
          exact q
        · cases q
      | some F =>
        rw [hX] at q
        simp only [] at q ⊢
        split at q
        · rename_i hn
          rw [if_pos ⟨hn.1, hn.2.1, by omega⟩]
          obtain ⟨p, h1, h2⟩ := Option.map_eq_some_iff.mp q
          rw [(execXM lo (fun f q ws st p hf e => run_excl hn.2.1 k f q ws st p hf e) W (i / 1000 - 1) F.body _ st p h1).1]
          exact congrArg some h2
        · cases q
theorem run_excl {P : List Fn} {W : Nat} (hl : P.length ≤ 1000) : ∀ (k f q : Nat) (ws : List Vl) (st : Sto) (p : Vl × Sto), f < 1000 → run gl P W k (f + 1000 * (q + 1)) ws st = some p → run gl P W (k + 1) f ws st = none ∧ ∀ x, x ≠ q → run gl P W (k + 1) (f + 1000 * (x + 1)) ws st = none
  | 0, f, q, ws, st, p, hf, e => by cases e
  | k + 1, f, q, ws, st, p, hf, e => by
    have lo : ∀ i ws st, Lo (run gl P W k i ws st) (run gl P W (k + 1) i ws st) := fun i ws st => run_mono1 k i ws st
    have h0 : P[f + 1000 * (q + 1)]? = none := List.getElem?_eq_none (by omega)
    unfold run at e
    rw [h0] at e
    simp only [] at e
    rw [show (f + 1000 * (q + 1)) % 1000 = f by omega, show (f + 1000 * (q + 1)) / 1000 - 1 = q by omega] at e
    cases hP : P[f]? with
    | none =>
      rw [hP] at e
      simp only [] at e
      rw [if_neg (by omega)] at e
      cases e
    | some F =>
      rw [hP] at e
      simp only [] at e
      split at e
      · rename_i hn
        obtain ⟨r, h1, h2⟩ := Option.map_eq_some_iff.mp e
        obtain ⟨h4, h3, h5⟩ := execXM lo (fun f q ws st p hf e => run_excl hl k f q ws st p hf e) W q F.body _ st r h1
        constructor
        · unfold run
          rw [hP]
          simp only []
          rw [if_pos hn.1]
          unfold outB
          split
          · rename_i h b hb
            rw [hb, execX_hrd] at h1
            cases h1
          · rename_i h b hb
            rw [hb, execX_hrm] at h1
            cases h1
          · rw [h3]; rfl
        · intro x hx
          unfold run
          have h0 : P[f + 1000 * (x + 1)]? = none := List.getElem?_eq_none (by omega)
          rw [h0]
          simp only []
          rw [show (f + 1000 * (x + 1)) % 1000 = f by omega, show (f + 1000 * (x + 1)) / 1000 - 1 = x by omega, hP]
          simp only []
          rw [h5 x hx]
          split <;> rfl
      · cases e
end
theorem run_mono {P : List Fn} {W k j : Nat} (h : k ≤ j) (i : Nat) (ws : List Vl) (st : Sto) : Lo (run gl P W k i ws st) (run gl P W j i ws st) := by
  induction h with
  | refl => exact Lo.rfl
  | step _ ih => exact fun r q => run_mono1 _ i ws st r (ih r q)
end
end Pi

end
section
set_option Elab.async false
set_option linter.all false
set_option maxRecDepth 100000
set_option maxHeartbeats 4000000
namespace Pi
theorem rg2_nat {n : Nat} (h : n ≤ SL) : rg2D 0 (n : Nat) = some ((List.range n).map fun k => .int ((k : Nat) : Int)) := by
  unfold rg2D
  have : n ≤ 16777216 := h
  rw [if_pos (by simp; omega)]
  simp
section
variable {gl : Nat → Option D} {cf : Cf} {W : Nat}
theorem turns_map {α : Type} {bd : D → Ev → Option Ev} {tt : Ev → Sto → Option (Bool × Sto)} {el : Ev → Sto → Option (D × Sto)} {env : Ev} {st : Sto} (a : α → D) (f : α → D) :
    ∀ (xs : List α) (acc : List D), (∀ x ∈ xs, ∃ e1, bd (a x) env = some e1 ∧ tt e1 st = some (true, st) ∧ el e1 st = some (f x, st)) → acc.length + xs.length ≤ SL → turns bd tt el env (xs.map a) acc st = some (acc ++ xs.map f, st)
  | [], acc, _, _ => by simp [turns]
  | x :: xs, acc, h, hl => by
    obtain ⟨e1, h1, h2, h3⟩ := h x List.mem_cons_self
    rw [List.length_cons] at hl
    rw [List.map_cons]
    unfold turns
    simp only [h1, h2, h3, bnd_some]
    rw [if_pos trivial, if_pos (by omega), turns_map a f xs (acc ++ [f x]) (fun y hy => h y (List.mem_cons_of_mem _ hy)) (by rw [List.length_append, List.length_singleton]; omega)]
    simp
theorem ev_lc {α : Type} {vs : List Nat} {e : E} {t : Tg} {it : It} {c : Oe} {env : Ev} {st : Sto} {xs : List α} (a f : α → D) (hi : evi gl cf it env st = some (xs.map a, st))
    (h : ∀ x ∈ xs, ∃ e1, bindT t (a x) (wipeE env vs) = some e1 ∧ evc gl cf c e1 st = some (true, st) ∧ toD (ev gl cf e e1 st) = some (f x, st)) (hl : xs.length ≤ SL) :
    ev gl cf (.lc vs e t it c) env st = some (.fr (.list (xs.map f)), st) := by
  show bnd (evi gl cf it env st) (fun xs s => bnd (turns (bindT t) (fun e1 s1 => evc gl cf c e1 s1) (fun e1 s1 => toD (ev gl cf e e1 s1)) (wipeE env vs) xs [] s) fun ys s' => some (Vl.fr (.list ys), s')) = _
  rw [hi, bnd_some, turns_map a f xs [] h (by simpa using hl), bnd_some]
  rfl
theorem bor_E {a : E} {env : Ev} {st s : Sto} {w : Vl} {x : D} (n : isV a = false) (h : ev gl cf a env st = some (w, s)) (hw : w.toD = some x) : bor a (ev gl cf a env st) env st = some (x, s) := by
  have e : toD (ev gl cf a env st) = some (x, s) := by rw [h]; show (w.toD.map fun x => (x, s)) = _; rw [hw]; rfl
  cases a with
  | v i => cases n
  | _ => exact e
theorem toD_E {a : E} {env : Ev} {st s : Sto} {w : Vl} {x : D} (h : ev gl cf a env st = some (w, s)) (hw : w.toD = some x) : toD (ev gl cf a env st) = some (x, s) := by
  rw [h]; show (w.toD.map fun x => (x, s)) = _; rw [hw]; rfl
theorem bor_sh {i : Nat} {env : Ev} {st : Sto} {x : D} (h : look env i = .sh x) : bor (.v i) (ev gl cf (.v i) env st) env st = some (x, st) := by
  show (match look env i with | .sh x => some (x, st) | .ow x => some (x, st) | .lk x => some (x, st) | _ => none) = _
  rw [h]
theorem bor_ow {i : Nat} {env : Ev} {st : Sto} {x : D} (h : look env i = .ow x) : bor (.v i) (ev gl cf (.v i) env st) env st = some (x, st) := by
  show (match look env i with | .sh x => some (x, st) | .ow x => some (x, st) | .lk x => some (x, st) | _ => none) = _
  rw [h]
theorem ev_sh {i : Nat} {env : Ev} {st : Sto} {x : D} (h : look env i = .sh x) : ev gl cf (.v i) env st = some (.d x, st) := by
  show (match look env i with | .sh x => some (Vl.d x, st) | .rf n => some (Vl.rf n, st) | _ => none) = _
  rw [h]
theorem ev_f1 {f : F1} {a : E} {env : Ev} {st s : Sto} {x : D} {r : Vl} (h : bor a (ev gl cf a env st) env st = some (x, s)) (hf : f1D f x = some r) : ev gl cf (.f1 f a) env st = some (r, s) := by
  show bnd (bor a (ev gl cf a env st) env st) (fun x s => ret (f1D f x) s) = _
  rw [h, bnd_some, hf]; rfl
theorem ev_bin {op : Bop} {a b : E} {env : Ev} {st s s2 : Sto} {x y : D} {r : Vl} (h : bor a (ev gl cf a env st) env st = some (x, s)) (g : bor b (ev gl cf b env s) env s = some (y, s2)) (hf : binD op x y = some r) : ev gl cf (.bin op a b) env st = some (r, s2) := by
  show bnd (bor a (ev gl cf a env st) env st) (fun x s => bnd (bor b (ev gl cf b env s) env s) fun y s' => ret (binD op x y) s') = _
  rw [h, bnd_some, g, bnd_some, hf]; rfl
theorem ev_ix {a b : E} {env : Ev} {st s s2 : Sto} {x y r : D} (h : bor a (ev gl cf a env st) env st = some (x, s)) (g : bor b (ev gl cf b env s) env s = some (y, s2)) (hf : ixD x y = some r) : ev gl cf (.ix a b) env st = some (.d r, s2) := by
  show bnd (bor a (ev gl cf a env st) env st) (fun x s => bnd (bor b (ev gl cf b env s) env s) fun y s' => ret ((ixD x y).map Vl.d) s') = _
  rw [h, bnd_some, g, bnd_some, hf]; rfl
theorem ret_some {α : Type} (a : α) (s : Sto) : ret (some a) s = some (a, s) := rfl
theorem asInt_int (i : Int) : asInt (.int i) = some i := rfl
theorem bind_s {α β : Type} (a : α) (f : α → Option β) : (some a).bind f = f a := rfl
theorem rng_bind {n : Nat} (hn : n ≤ SL) : ((asInt (.int ((n : Nat) : Int))).bind fun n => rg2D 0 n) = some ((List.range n).map fun k => .int ((k : Nat) : Int)) := by
  rw [asInt_int, bind_s]
  exact rg2_nat hn
theorem evi_rng1' {a : E} {env : Ev} {st : Sto} : evi gl cf (.rng1 a) env st = bnd (bor a (ev gl cf a env st) env st) fun x s => ret ((asInt x).bind fun n => rg2D 0 n) s := rfl
theorem evi_rng1 {a : E} {env : Ev} {st s : Sto} {n : Nat} (h : bor a (ev gl cf a env st) env st = some (.int (n : Nat), s)) (hn : n ≤ SL) : evi gl cf (.rng1 a) env st = some ((List.range n).map fun k => .int ((k : Nat) : Int), s) := by
  rw [evi_rng1', h, bnd_some, rng_bind hn, ret_some]
def zipQ (x y : D) : Option (List D) := (items x).bind fun xs => (items y).map fun ys => zipD xs ys
theorem evi_zip {a b : E} {env : Ev} {st s s2 : Sto} {x y : D} {xs : List D} (h : bor a (ev gl cf a env st) env st = some (x, s)) (g : bor b (ev gl cf b env s) env s = some (y, s2)) (hw : zipQ x y = some xs) : evi gl cf (.zip a b) env st = some (xs, s2) := by
  show bnd (bor a (ev gl cf a env st) env st) (fun x s => bnd (bor b (ev gl cf b env s) env s) fun y s' => ret (zipQ x y) s') = _
  rw [h, bnd_some, g, bnd_some, hw]; rfl
theorem ev_call {f : Nat} {es : Es} {env : Ev} {st s : Sto} {ws : List Vl} {r : Vl × Sto} (h : eva gl cf es env st = some (ws, s)) (g : cf f ws s = some r) : ev gl cf (.call f es) env st = some r := by
  show bnd (eva gl cf es env st) (fun ws s => cf f ws s) = _
  rw [h, bnd_some, g]
theorem eva_nil {env : Ev} {st : Sto} : eva gl cf .nil env st = some ([], st) := rfl
theorem eva_cons {e : E} {es : Es} {env : Ev} {st s s2 : Sto} {w : Vl} {ws : List Vl} (h : ev gl cf e env st = some (w, s)) (g : eva gl cf es env s = some (ws, s2)) : eva gl cf (.cons e es) env st = some (argV w :: ws, s2) := by
  show bnd (ev gl cf e env st) (fun x s => bnd (eva gl cf es env s) fun xs s' => some (argV x :: xs, s')) = _
  rw [h, bnd_some, g, bnd_some]
theorem ev_cmp {op : Cop} {a b : E} {env : Ev} {st s s2 : Sto} {x y : D} {r : Bool} (h : bor a (ev gl cf a env st) env st = some (x, s)) (g : bor b (ev gl cf b env s) env s = some (y, s2)) (hf : cmpD op x y = some r) : ev gl cf (.cmp op a b) env st = some (.d (.bool r), s2) := by
  show bnd (bor a (ev gl cf a env st) env st) (fun x s => bnd (bor b (ev gl cf b env s) env s) fun y s' => ret ((cmpD op x y).map fun k => Vl.d (.bool k)) s') = _
  rw [h, bnd_some, g, bnd_some, hf]; rfl
theorem ev_isi {a : E} {ts : List Ty} {env : Ev} {st s : Sto} {x : D} (h : bor a (ev gl cf a env st) env st = some (x, s)) (n : noDict x = true) : ev gl cf (.isi a ts) env st = some (.d (.bool (ts.any (isTy x))), s) := by
  show bnd (bor a (ev gl cf a env st) env st) (fun x s => if noDict x then some (Vl.d (.bool (ts.any (isTy x))), s) else none) = _
  rw [h, bnd_some, if_pos n]
theorem ev_ite {c a b : E} {env : Ev} {st s : Sto} {x : D} {k : Bool} {r : Option (Vl × Sto)} (h : bor c (ev gl cf c env st) env st = some (x, s)) (hk : truD x = some k) (g : (if k then ev gl cf a env s else ev gl cf b env s) = r) : ev gl cf (.ite c a b) env st = r := by
  show bnd (tru (bor c (ev gl cf c env st) env st)) (fun k s => if k then ev gl cf a env s else ev gl cf b env s) = _
  rw [h]
  show bnd (ret (truD x) s) _ = _
  rw [hk]
  exact g
end
theorem boolsD_map {α : Type} (g : α → Bool) : ∀ l : List α, boolsD (l.map fun k => .bool (g k)) = some (l.map g)
  | [] => rfl
  | x :: l => by
    show (boolsD (l.map fun k => .bool (g k))).map (g x :: ·) = _
    rw [boolsD_map g l]; rfl
theorem zipD_map {α : Type} (a b : α → D) : ∀ l : List α, zipD (l.map a) (l.map b) = l.map fun k => .tuple [a k, b k]
  | [] => rfl
  | x :: l => congrArg (_ :: ·) (zipD_map a b l)
theorem atI_nat {xs : List D} {j : Nat} {x : D} (h : xs[j]? = some x) : at? xs (j : Nat) = some x := L2.atI_nat h
theorem eq_int (i j : Int) : cmpD .eq (.int i) (.int j) = some (decide (i = j)) := by
  show (if okD (.int i) && okD (.int j) then some (PySem.PyData.eqv (.int i) (.int j)) else none) = _
  have ok : ∀ k : Int, okD (.int k) = true := fun k => by simp [okD, PySem.PyData.plain, PySem.PyData.depth]
  rw [ok, ok, if_pos (show (true && true) = true from rfl)]
  simp only [PySem.PyData.eqv]
  by_cases e : i = j
  · subst e; simp
  · simp [e]
def sq (b : Bool) (xs : List D) : D := if b then .tuple xs else .list xs
end Pi

end
section
set_option Elab.async false
set_option linter.all false
set_option maxRecDepth 100000
set_option maxHeartbeats 4000000
namespace Pi
open PySem
section
variable {gl : Nat → Option D} {cf : Cf} {W : Nat}
theorem ev_int {i : Int} {env : Ev} {st : Sto} : ev gl cf (.int i) env st = some (.d (.int i), st) := rfl
theorem ev_str {i : Str} {env : Ev} {st : Sto} : ev gl cf (.str i) env st = some (.d (.str i), st) := rfl
theorem ev_bl {i : Bool} {env : Ev} {st : Sto} : ev gl cf (.bl i) env st = some (.d (.bool i), st) := rfl
theorem ev_non {env : Ev} {st : Sto} : ev gl cf .non env st = some (.d .none, st) := rfl
theorem ev_neg {a : E} {env : Ev} {st s : Sto} {i : Int} (h : bor a (ev gl cf a env st) env st = some (.int i, s)) : ev gl cf (.neg a) env st = some (.d (.int (-i)), s) := by
  show bnd (bor a (ev gl cf a env st) env st) (fun x s => ret ((asInt x).map fun i => Vl.d (.int (-i))) s) = _
  rw [h]; rfl
theorem ev_f2 {f : F2} {a b : E} {env : Ev} {st s s2 : Sto} {x y : D} {r : Vl} (h : bor a (ev gl cf a env st) env st = some (x, s)) (g : bor b (ev gl cf b env s) env s = some (y, s2)) (hf : f2D f x y = some r) : ev gl cf (.f2 f a b) env st = some (r, s2) := by
  show bnd (bor a (ev gl cf a env st) env st) (fun x s => bnd (bor b (ev gl cf b env s) env s) fun y s' => ret (f2D f x y) s') = _
  rw [h, bnd_some, g, bnd_some, hf]; rfl
theorem ev_bx {i n : Nat} {k : E} {env : Ev} {st s : Sto} {y r : D} {xs : List D} (h : bor k (ev gl cf k env st) env st = some (y, s)) (hl : look env i = .rf n) (hs : s[n]? = some xs) (hi : ixD (.list xs) y = some r) : ev gl cf (.bx i k) env st = some (.d r, s) := by
  show bnd (bor k (ev gl cf k env st) env st) (fun y s => (match look env i with | .rf n => ret ((s[n]?).bind fun xs => (ixD (.list xs) y).map Vl.d) s | _ => none)) = _
  rw [h, bnd_some, hl]
  show ret ((s[n]?).bind fun xs => (ixD (.list xs) y).map Vl.d) s = _
  rw [hs]
  show ret ((ixD (.list xs) y).map Vl.d) s = _
  rw [hi]; rfl
theorem ev_sl {a : E} {lo hi : Oe} {env : Ev} {st s s1 s2 : Sto} {x : D} {l h : Option Int} {r : Vl} (ha : bor a (ev gl cf a env st) env st = some (x, s)) (h1 : evo gl cf lo env s = some (l, s1)) (h2 : evo gl cf hi env s1 = some (h, s2)) (hr : slD x l h = some r) : ev gl cf (.sl a lo hi) env st = some (r, s2) := by
  show bnd (bor a (ev gl cf a env st) env st) (fun x s => bnd (evo gl cf lo env s) fun l s1 => bnd (evo gl cf hi env s1) fun h s2 => ret (slD x l h) s2) = _
  rw [ha, bnd_some, h1, bnd_some, h2, bnd_some, hr]; rfl
theorem evo_no {env : Ev} {st : Sto} : evo gl cf .no env st = some (none, st) := rfl
theorem evo_yes {e : E} {env : Ev} {st s : Sto} {i : Int} (h : bor e (ev gl cf e env st) env st = some (.int i, s)) : evo gl cf (.yes e) env st = some (some i, s) := by
  show bnd (bor e (ev gl cf e env st) env st) (fun x s => ret ((asInt x).map some) s) = _
  rw [h]; rfl
theorem ev_tup {es : Es} {env : Ev} {st s : Sto} {xs : List D} (h : evs gl cf es env st = some (xs, s)) (hl : xs.length ≤ SL) : ev gl cf (.tup es) env st = some (.d (.tuple xs), s) := by
  show bnd (evs gl cf es env st) (fun xs s => if xs.length ≤ SL then some (Vl.d (.tuple xs), s) else none) = _
  rw [h, bnd_some, if_pos hl]
theorem evs_nil {env : Ev} {st : Sto} : evs gl cf .nil env st = some ([], st) := rfl
theorem evs_cons {e : E} {es : Es} {env : Ev} {st s s2 : Sto} {x : D} {xs : List D} (h : toD (ev gl cf e env st) = some (x, s)) (g : evs gl cf es env s = some (xs, s2)) : evs gl cf (.cons e es) env st = some (x :: xs, s2) := by
  show bnd (toD (ev gl cf e env st)) (fun x s => bnd (evs gl cf es env s) fun xs s' => some (x :: xs, s')) = _
  rw [h, bnd_some, g, bnd_some]
theorem ev_or1 {a b : E} {env : Ev} {st s : Sto} {w : Vl} {x : D} (h : ev gl cf a env st = some (w, s)) (hw : w.toD = some x) (hk : truD x = some true) : ev gl cf (.or a b) env st = some (w, s) := by
  show bnd (ev gl cf a env st) (fun w s => bnd (ret w.toD s) fun x s => bnd (ret (truD x) s) fun k s => if k then some (w, s) else ev gl cf b env s) = _
  rw [h, bnd_some, hw, ret_some, bnd_some, hk, ret_some, bnd_some, if_pos rfl]
theorem ev_or2 {a b : E} {env : Ev} {st s : Sto} {w : Vl} {x : D} {r : Option (Vl × Sto)} (h : ev gl cf a env st = some (w, s)) (hw : w.toD = some x) (hk : truD x = some false) (g : ev gl cf b env s = r) : ev gl cf (.or a b) env st = r := by
  show bnd (ev gl cf a env st) (fun w s => bnd (ret w.toD s) fun x s => bnd (ret (truD x) s) fun k s => if k then some (w, s) else ev gl cf b env s) = _
  rw [h, bnd_some, hw, ret_some, bnd_some, hk, ret_some, bnd_some, if_neg Bool.false_ne_true]; exact g
theorem ev_andT {a b : E} {env : Ev} {st s : Sto} {x : D} {r : Option (Vl × Sto)} (h : toD (ev gl cf a env st) = some (x, s)) (hk : truD x = some true) (g : ev gl cf b env s = r) : ev gl cf (.and a b) env st = r := by
  show bnd (toD (ev gl cf a env st)) (fun x s => bnd (ret (truD x) s) fun k s => if k then ev gl cf b env s else some (Vl.d x, s)) = _
  rw [h, bnd_some, hk, ret_some, bnd_some, if_pos rfl]
  exact g
theorem tru_E {a : E} {env : Ev} {st s : Sto} {x : D} {k : Bool} (h : bor a (ev gl cf a env st) env st = some (x, s)) (hk : truD x = some k) : tru (bor a (ev gl cf a env st) env st) = some (k, s) := by
  rw [h]
  show ret (truD x) s = _
  rw [hk]; rfl
theorem exs_cons {s : S} {ss : Ss} {env e1 : Ev} {st s1 : Sto} {r : SR} (h : exec gl cf W s env st = some (.nx, e1, s1)) (g : execs gl cf W ss e1 s1 = r) : execs gl cf W (.cons s ss) env st = r := by
  show sbnd (exec gl cf W s env st) _ = _
  rw [h]; exact g
theorem exs_rt {s : S} {ss : Ss} {env e1 : Ev} {st s1 : Sto} {w : Vl} (h : exec gl cf W s env st = some (.rt w, e1, s1)) : execs gl cf W (.cons s ss) env st = some (.rt w, e1, s1) := by
  show sbnd (exec gl cf W s env st) _ = _
  rw [h]; rfl
theorem ex_ite {c : E} {a b : Ss} {env : Ev} {st s : Sto} {k : Bool} {r : SR} (h : tru (bor c (ev gl cf c env st) env st) = some (k, s)) (g : (if k then execs gl cf W a env s else execs gl cf W b env s) = r) : exec gl cf W (.ite c a b) env st = r := by
  show (match tru (bor c (ev gl cf c env st) env st) with | some (true, s) => execs gl cf W a env s | some (false, s) => execs gl cf W b env s | none => none) = _
  rw [h]
  cases k <;> exact g
theorem ex_asg {t : Tg} {e : E} {env e1 : Ev} {st s : Sto} {x : D} (h : toD (ev gl cf e env st) = some (x, s)) (hb : bindT t x env = some e1) : exec gl cf W (.asg t e) env st = some (.nx, e1, s) := by
  show (match toD (ev gl cf e env st) with | some (x, s) => (bindT t x env).map fun e1 => (Fl.nx, e1, s) | none => none) = _
  rw [h]
  show (bindT t x env).map _ = _
  rw [hb]; rfl
theorem ex_own {i : Nat} {e : E} {env e1 : Ev} {st s : Sto} {x : D} (h : ev gl cf e env st = some (.fr x, s)) (hb : ownAt env i x = some e1) : exec gl cf W (.own i e) env st = some (.nx, e1, s) := by
  show (match ev gl cf e env st with | some (.fr x, s) => (ownAt env i x).map fun e1 => (Fl.nx, e1, s) | _ => none) = _
  rw [h]
  show (ownAt env i x).map _ = _
  rw [hb]; rfl
theorem ex_ret {e : E} {env : Ev} {st s : Sto} {w : Vl} (h : ev gl cf e env st = some (w, s)) : exec gl cf W (.ret e) env st = some (.rt w, env, s) := by
  show (match ev gl cf e env st with | some (w, s) => some (Fl.rt w, env, s) | none => none) = _
  rw [h]
theorem ex_reto {i : Nat} {env : Ev} {st : Sto} {x : D} (h : look env i = .ow x) : exec gl cf W (.reto i) env st = some (.rt (.fr x), env, st) := by
  show (match look env i with | .ow x => some (Fl.rt (.fr x), env, st) | _ => none) = _
  rw [h]
theorem ex_rbox {es : Es} {env : Ev} {st s : Sto} {xs : List D} (h : evs gl cf es env st = some (xs, s)) (hl : xs.length ≤ SL) : exec gl cf W (.rbox es) env st = some (.rt (.rf s.length), env, s ++ [xs]) := by
  show (match evs gl cf es env st with | some (xs, s) => if xs.length ≤ SL then some (Fl.rt (.rf s.length), env, s ++ [xs]) else none | none => none) = _
  rw [h]
  show (if xs.length ≤ SL then _ else _) = _
  rw [if_pos hl]
theorem ex_stixO {i : Nat} {k e : E} {env : Ev} {st s s1 : Sto} {y kx : D} {xs ys : List D} (h : toD (ev gl cf e env st) = some (y, s)) (hk : bor k (ev gl cf k env s) env s = some (kx, s1)) (hl : look env i = .ow (.list xs)) (hs : setNth xs kx y = some ys) :
    exec gl cf W (.stix i k e) env st = some (.nx, env.set i (.ow (.list ys)), s1) := by
  show (match toD (ev gl cf e env st) with
    | some (y, s) => (match bor k (ev gl cf k env s) env s with
      | some (kx, s1) => (match look env i with
        | .ow (.list xs) => (setNth xs kx y).bind fun ys => some (Fl.nx, env.set i (.ow (.list ys)), s1)
        | .ow (.dict ds) => if (keyD kx && decide (ds.length < SL)) = true then (dents kx ds).map fun es => (Fl.nx, env.set i (Slot.ow (.dict (dput kx y es))), s1) else none
        | .rf n => (s1[n]?).bind fun xs => (setNth xs kx y).bind fun ys => some (Fl.nx, env, s1.set n ys)
        | _ => none)
      | none => none)
    | none => none) = _
  rw [h]
  show (match bor k (ev gl cf k env s) env s with
      | some (kx, s1) => (match look env i with
        | .ow (.list xs) => (setNth xs kx y).bind fun ys => some (Fl.nx, env.set i (.ow (.list ys)), s1)
        | .ow (.dict ds) => if (keyD kx && decide (ds.length < SL)) = true then (dents kx ds).map fun es => (Fl.nx, env.set i (Slot.ow (.dict (dput kx y es))), s1) else none
        | .rf n => (s1[n]?).bind fun xs => (setNth xs kx y).bind fun ys => some (Fl.nx, env, s1.set n ys)
        | _ => none)
      | none => none) = _
  rw [hk]
  show (match look env i with
        | .ow (.list xs) => (setNth xs kx y).bind fun ys => some (Fl.nx, env.set i (.ow (.list ys)), s1)
        | .ow (.dict ds) => if (keyD kx && decide (ds.length < SL)) = true then (dents kx ds).map fun es => (Fl.nx, env.set i (Slot.ow (.dict (dput kx y es))), s1) else none
        | .rf n => (s1[n]?).bind fun xs => (setNth xs kx y).bind fun ys => some (Fl.nx, env, s1.set n ys)
        | _ => none) = _
  rw [hl]
  show (setNth xs kx y).bind _ = _
  rw [hs]; rfl
theorem ex_stixR {i n : Nat} {k e : E} {env : Ev} {st s s1 : Sto} {y kx : D} {xs ys : List D} (h : toD (ev gl cf e env st) = some (y, s)) (hk : bor k (ev gl cf k env s) env s = some (kx, s1)) (hl : look env i = .rf n) (hx : s1[n]? = some xs) (hs : setNth xs kx y = some ys) :
    exec gl cf W (.stix i k e) env st = some (.nx, env, s1.set n ys) := by
  show (match toD (ev gl cf e env st) with
    | some (y, s) => (match bor k (ev gl cf k env s) env s with
      | some (kx, s1) => (match look env i with
        | .ow (.list xs) => (setNth xs kx y).bind fun ys => some (Fl.nx, env.set i (.ow (.list ys)), s1)
        | .ow (.dict ds) => if (keyD kx && decide (ds.length < SL)) = true then (dents kx ds).map fun es => (Fl.nx, env.set i (Slot.ow (.dict (dput kx y es))), s1) else none
        | .rf n => (s1[n]?).bind fun xs => (setNth xs kx y).bind fun ys => some (Fl.nx, env, s1.set n ys)
        | _ => none)
      | none => none)
    | none => none) = _
  rw [h]
  show (match bor k (ev gl cf k env s) env s with
      | some (kx, s1) => (match look env i with
        | .ow (.list xs) => (setNth xs kx y).bind fun ys => some (Fl.nx, env.set i (.ow (.list ys)), s1)
        | .ow (.dict ds) => if (keyD kx && decide (ds.length < SL)) = true then (dents kx ds).map fun es => (Fl.nx, env.set i (Slot.ow (.dict (dput kx y es))), s1) else none
        | .rf n => (s1[n]?).bind fun xs => (setNth xs kx y).bind fun ys => some (Fl.nx, env, s1.set n ys)
        | _ => none)
      | none => none) = _
  rw [hk]
  show (match look env i with
        | .ow (.list xs) => (setNth xs kx y).bind fun ys => some (Fl.nx, env.set i (.ow (.list ys)), s1)
        | .ow (.dict ds) => if (keyD kx && decide (ds.length < SL)) = true then (dents kx ds).map fun es => (Fl.nx, env.set i (Slot.ow (.dict (dput kx y es))), s1) else none
        | .rf n => (s1[n]?).bind fun xs => (setNth xs kx y).bind fun ys => some (Fl.nx, env, s1.set n ys)
        | _ => none) = _
  rw [hl]
  show (s1[n]?).bind _ = _
  rw [hx]
  show (setNth xs kx y).bind _ = _
  rw [hs]; rfl
end
theorem ok_int (k : Int) : okD (.int k) = true := by simp [okD, PySem.PyData.plain, PySem.PyData.depth]
theorem alike_int (i j : Int) : PySem.W.alike (.int i) (.int j) = true := by simp [PySem.W.alike]
theorem gt_int (i j : Int) : cmpD .gt (.int i) (.int j) = some (decide (j < i)) := by
  show (if okD (.int i) && okD (.int j) && PySem.W.alike (.int i) (.int j) && !isNone (.int i) then some (PySem.W.dataLt (.int j) (.int i)) else none) = _
  rw [ok_int, ok_int, PySem.W.dataLt_int, alike_int]; rfl
theorem lt_int (i j : Int) : cmpD .lt (.int i) (.int j) = some (decide (i < j)) := by
  show (if okD (.int i) && okD (.int j) && PySem.W.alike (.int i) (.int j) && !isNone (.int i) then some (PySem.W.dataLt (.int i) (.int j)) else none) = _
  rw [ok_int, ok_int, PySem.W.dataLt_int, alike_int]; rfl
theorem ge_int (i j : Int) : cmpD .ge (.int i) (.int j) = some (decide (j ≤ i)) := by
  show (if okD (.int i) && okD (.int j) && PySem.W.alike (.int i) (.int j) && !isNone (.int i) then some (!PySem.W.dataLt (.int i) (.int j)) else none) = _
  rw [ok_int, ok_int, PySem.W.dataLt_int, alike_int]
  show some (!decide (i < j)) = _
  by_cases h : i < j
  · rw [decide_eq_true h, decide_eq_false (by omega)]; rfl
  · rw [decide_eq_false h, decide_eq_true (by omega)]; rfl
theorem le_int (i j : Int) : cmpD .le (.int i) (.int j) = some (decide (i ≤ j)) := by
  show (if okD (.int i) && okD (.int j) && PySem.W.alike (.int i) (.int j) && !isNone (.int i) then some (!PySem.W.dataLt (.int j) (.int i)) else none) = _
  rw [ok_int, ok_int, PySem.W.dataLt_int, alike_int]
  show some (!decide (j < i)) = _
  by_cases h : j < i
  · rw [decide_eq_true h, decide_eq_false (by omega)]; rfl
  · rw [decide_eq_false h, decide_eq_true (by omega)]; rfl
def Sml (i : Int) : Prop := -(2 ^ 64) < i ∧ i < 2 ^ 64
theorem mulL {i j : Int} (h : Sml i) : binD .mul (.int i) (.int j) = some (.d (.int (i * j))) := by
  show (if decide ((-(2 ^ 64) < i ∧ i < 2 ^ 64) ∨ (-(2 ^ 64) < j ∧ j < 2 ^ 64) ∨ i.natAbs.log2 + j.natAbs.log2 < 1000000) = true then some (Vl.d (.int (i * j))) else none) = _
  rw [if_pos (decide_eq_true (.inl h))]
theorem mulR {i j : Int} (h : Sml j) : binD .mul (.int i) (.int j) = some (.d (.int (i * j))) := by
  show (if decide ((-(2 ^ 64) < i ∧ i < 2 ^ 64) ∨ (-(2 ^ 64) < j ∧ j < 2 ^ 64) ∨ i.natAbs.log2 + j.natAbs.log2 < 1000000) = true then some (Vl.d (.int (i * j))) else none) = _
  rw [if_pos (decide_eq_true (.inr (.inl h)))]
theorem addI (i j : Int) : binD .add (.int i) (.int j) = some (.d (.int (i + j))) := rfl
theorem subI (i j : Int) : binD .sub (.int i) (.int j) = some (.d (.int (i - j))) := rfl
theorem modP {i j : Int} (h : 0 < j) : binD .mod (.int i) (.int j) = some (.d (.int (i % j))) := by
  show (modD i j).map _ = _
  unfold modD
  rw [if_pos h]; rfl
theorem fdivP {i j : Int} (h : 0 < j) (hl : j.natAbs.log2 < 9000) : binD .fdiv (.int i) (.int j) = some (.d (.int (i / j))) := by
  show (fdivD i j).map _ = _
  unfold fdivD
  rw [if_pos h, if_pos hl]; rfl
theorem log2_small {n : Nat} (h : n < 2 ^ 64) : n.log2 < 9000 := by
  by_cases z : n = 0
  · subst z; decide
  · have := (Nat.log2_lt z).mpr h
    omega
theorem set_get {st : Sto} {n : Nat} {xs : List D} (h : st[n]? = some xs) (ys : List D) : (st.set n ys)[n]? = some ys := by
  rw [List.getElem?_set]
  have := (List.getElem?_eq_some_iff.mp h).1
  simp [this]
theorem scal_set {st : Sto} (h : scalS st = true) (n : Nat) {xs : List D} (hx : xs.all scalD = true) : scalS (st.set n xs) = true := by
  unfold scalS at h ⊢
  rw [List.all_eq_true] at h ⊢
  intro y hy
  rcases List.mem_or_eq_of_mem_set hy with hy | rfl
  · exact h y hy
  · exact hx
theorem scal_app {st : Sto} (h : scalS st = true) {xs : List D} (hx : xs.all scalD = true) : scalS (st ++ [xs]) = true := by
  unfold scalS at h ⊢
  rw [List.all_append, h, List.all_cons, hx]; rfl
def BoxOk (q : Nat) (st : Sto) (n : Nat) : Prop := ∃ a b c : Int, st[n]? = some [.int a, .int b, .int c] ∧ 0 ≤ c ∧ c ≤ q ∧ scalS st = true
theorem BoxOk.mono {q q' : Nat} {st : Sto} {n : Nat} (h : BoxOk q st n) (hq : q ≤ q') : BoxOk q' st n := by
  obtain ⟨a, b, c, h1, h2, h3, h4⟩ := h
  exact ⟨a, b, c, h1, h2, by omega, h4⟩
end Pi

end
section
set_option Elab.async false
set_option linter.all false
set_option maxRecDepth 100000
set_option maxHeartbeats 4000000
namespace Pi
open PySem
def app : Ss → Ss → Ss
  | .nil, b => b
  | .cons s a, b => .cons s (app a b)
theorem sbnd_assoc (r : SR) (k l : Ev → Sto → SR) : sbnd (sbnd r k) l = sbnd r fun e s => sbnd (k e s) l := by
  cases r with
  | none => rfl
  | some p =>
    obtain ⟨f, e, s⟩ := p
    cases f <;> rfl
section
variable {gl : Nat → Option D} {cf : Cf} {W : Nat}
theorem execs_app : ∀ (a b : Ss) (env : Ev) (st : Sto), execs gl cf W (app a b) env st = sbnd (execs gl cf W a env st) fun e s => execs gl cf W b e s
  | .nil, b, env, st => rfl
  | .cons s a, b, env, st => by
    show sbnd (exec gl cf W s env st) (fun e1 s1 => execs gl cf W (app a b) e1 s1) = sbnd (sbnd (exec gl cf W s env st) fun e1 s1 => execs gl cf W a e1 s1) _
    rw [sbnd_assoc]
    congr 1
    funext e1 s1
    exact execs_app a b e1 s1
theorem exs_ite {c : E} {a b ss : Ss} {env : Ev} {st s : Sto} {k : Bool} {r : SR} (h : tru (bor c (ev gl cf c env st) env st) = some (k, s)) (g : execs gl cf W (app (if k then a else b) ss) env s = r) : execs gl cf W (.cons (.ite c a b) ss) env st = r := by
  show sbnd (exec gl cf W (.ite c a b) env st) (fun e1 s1 => execs gl cf W ss e1 s1) = r
  have e : exec gl cf W (.ite c a b) env st = execs gl cf W (if k then a else b) env s := ex_ite h (by cases k <;> rfl)
  rw [e, ← execs_app]
  exact g
theorem o_cons {s : S} {ss : Ss} {env e1 : Ev} {st s1 : Sto} {r : Option (Vl × Sto)} (h : exec gl cf W s env st = some (.nx, e1, s1)) (g : out (execs gl cf W ss e1 s1) = r) : out (execs gl cf W (.cons s ss) env st) = r := by
  rw [exs_cons h rfl]; exact g
theorem o_asg {t : Tg} {e : E} {ss : Ss} {env e1 : Ev} {st s1 : Sto} {x : D} {r : Option (Vl × Sto)} (h : toD (ev gl cf e env st) = some (x, s1)) (hb : bindT t x env = some e1) (g : out (execs gl cf W ss e1 s1) = r) : out (execs gl cf W (.cons (.asg t e) ss) env st) = r := o_cons (ex_asg h hb) g
theorem o_own {i : Nat} {e : E} {ss : Ss} {env e1 : Ev} {st s1 : Sto} {x : D} {r : Option (Vl × Sto)} (h : ev gl cf e env st = some (.fr x, s1)) (hb : ownAt env i x = some e1) (g : out (execs gl cf W ss e1 s1) = r) : out (execs gl cf W (.cons (.own i e) ss) env st) = r := o_cons (ex_own h hb) g
theorem o_ite {c : E} {a b ss : Ss} {env : Ev} {st s : Sto} {k : Bool} {r : Option (Vl × Sto)} (h : tru (bor c (ev gl cf c env st) env st) = some (k, s)) (g : out (execs gl cf W (app (if k then a else b) ss) env s) = r) : out (execs gl cf W (.cons (.ite c a b) ss) env st) = r := by
  rw [exs_ite h rfl]; exact g
theorem o_iteT {c : E} {a b ss : Ss} {env : Ev} {st s : Sto} {r : Option (Vl × Sto)} (h : tru (bor c (ev gl cf c env st) env st) = some (true, s)) (g : out (execs gl cf W (app a ss) env s) = r) : out (execs gl cf W (.cons (.ite c a b) ss) env st) = r := o_ite h g
theorem o_iteF {c : E} {a b ss : Ss} {env : Ev} {st s : Sto} {r : Option (Vl × Sto)} (h : tru (bor c (ev gl cf c env st) env st) = some (false, s)) (g : out (execs gl cf W (app b ss) env s) = r) : out (execs gl cf W (.cons (.ite c a b) ss) env st) = r := o_ite h g
theorem o_ret {e : E} {ss : Ss} {env : Ev} {st : Sto} {r : Vl × Sto} (h : ev gl cf e env st = some r) : out (execs gl cf W (.cons (.ret e) ss) env st) = some r := by
  obtain ⟨w, s⟩ := r
  rw [exs_rt (ex_ret h)]; rfl
theorem o_reto {i : Nat} {ss : Ss} {env : Ev} {st : Sto} {x : D} (h : look env i = .ow x) : out (execs gl cf W (.cons (.reto i) ss) env st) = some (.fr x, st) := by
  rw [exs_rt (ex_reto h)]; rfl
theorem o_rbox {es : Es} {ss : Ss} {env : Ev} {st s : Sto} {xs : List D} (h : evs gl cf es env st = some (xs, s)) (hl : xs.length ≤ SL) : out (execs gl cf W (.cons (.rbox es) ss) env st) = some (.rf s.length, s ++ [xs]) := by
  rw [exs_rt (ex_rbox h hl)]; rfl
theorem o_stixR {i n : Nat} {k e : E} {ss : Ss} {env : Ev} {st s s1 : Sto} {y kx : D} {xs ys : List D} {r : Option (Vl × Sto)} (h : toD (ev gl cf e env st) = some (y, s)) (hk : bor k (ev gl cf k env s) env s = some (kx, s1)) (hl : look env i = .rf n) (hx : s1[n]? = some xs) (hs : setNth xs kx y = some ys)
    (g : out (execs gl cf W ss env (s1.set n ys)) = r) : out (execs gl cf W (.cons (.stix i k e) ss) env st) = r := o_cons (ex_stixR h hk hl hx hs) g
theorem forL_inv {bd : D → Ev → Option Ev} {body : Ev → Sto → SR} {ys : List D} (I : List D → Ev → Sto → Prop)
    (h : ∀ pre x post env st, ys = pre ++ x :: post → I pre env st → ∃ e1 e2 s2, bd x env = some e1 ∧ (body e1 st = some (.nx, e2, s2) ∨ body e1 st = some (.ct, e2, s2)) ∧ I (pre ++ [x]) e2 s2) :
    ∀ (xs pre : List D) (env : Ev) (st : Sto), ys = pre ++ xs → I pre env st → ∃ e2 s2, forL bd body xs env st = some (.nx, e2, s2) ∧ I ys e2 s2
  | [], pre, env, st, e, hi => ⟨env, st, rfl, by rw [e, List.append_nil]; exact hi⟩
  | x :: xs, pre, env, st, e, hi => by
    obtain ⟨e1, e2, s2, h1, h2, h3⟩ := h pre x xs env st e hi
    obtain ⟨e3, s3, h4, h5⟩ := forL_inv I h xs (pre ++ [x]) e2 s2 (by rw [e]; simp) h3
    refine ⟨e3, s3, ?_, h5⟩
    unfold forL
    simp only [h1]
    rcases h2 with h2 | h2 <;> simp only [h2] <;> exact h4
theorem ex_for {t : Tg} {it : It} {b : Ss} {env e2 e3 : Ev} {st s s2 : Sto} {xs : List D} (hi : evi gl cf it (hideB (brw it) (lock (lockOf it env) env)) st = some (xs, s)) (hf : forL (bindT t) (fun e1 s1 => execs gl cf W b e1 s1) xs (lock (lockOf it env) env) s = some (.nx, e2, s2))
    (hu : unlock (lockOf it env) (some (.nx, e2, s2)) = some (.nx, e3, s2)) : exec gl cf W (.for' t it b) env st = some (.nx, e3, s2) := by
  show (match evi gl cf it (hideB (brw it) (lock (lockOf it env) env)) st with
    | some (xs, s) => unlock (lockOf it env) (forL (bindT t) (fun e1 s1 => execs gl cf W b e1 s1) xs (lock (lockOf it env) env) s)
    | none => none) = _
  rw [hi]
  show unlock _ (forL _ _ _ _ _) = _
  rw [hf, hu]
end
end Pi

end
section
set_option Elab.async false
set_option linter.all false
set_option maxRecDepth 100000
set_option maxHeartbeats 4000000
namespace Pi
open PySem
local macro_rules | `(tactic| walk_at "po") => `(tactic| first
  | exact addI _ _ | exact subI _ _
  | exact Pi.gt_int _ _ | exact Pi.lt_int _ _ | exact Pi.ge_int _ _ | exact Pi.le_int _ _ | exact eq_int _ _
  | exact mulR ⟨by omega, by omega⟩ | exact mulL ⟨by omega, by omega⟩ | exact modP (by omega) | exact fdivP (by omega) (by first | decide +kernel | exact log2_small (by omega))
  | exact rfl)
local macro_rules | `(tactic| walk_at "pe") => `(tactic| repeat' (first
  | exact bor_sh rfl | exact bor_ow rfl | exact ev_sh rfl | exact ev_int | exact ev_str | exact ev_bl | exact ev_non | exact evs_nil | exact eva_nil
  | (apply bor_E rfl)
  | (apply ev_bin) | (apply ev_f1) | (apply ev_f2)
  | (apply ev_ix) | (apply ev_cmp) | (apply ev_neg)
  | (apply ev_bx)
  | (apply toD_E)
  | (apply evs_cons) | (apply eva_cons)
  | assumption | walk_at "po"))
def bCells : Ss := (.cons (.own 2 (.or (.f1 .list (.sl (.v 0) .no (.yes (.v 1)))) (.lst (.cons (.int 0) .nil)))) (.cons (.for' (.t (.cons (.n 3) (.cons (.n 4) .nil))) (.enm (.sl (.v 0) (.yes (.v 1)) (.yes (.int 63)))) (.cons (.asg (.n 5) (.bin .mod (.f1 .int (.v 3)) (.v 1))) (.cons (.stix 2 (.v 5) (.bin .add (.ix (.v 2) (.v 5)) (.bin .mul (.v 4) (.bin .add (.v 3) (.int 2))))) .nil))) (.cons (.reto 2) .nil)))
section
variable {gl : Nat → Option D} {cf : Cf} {W : Nat}
theorem evi_enm {a : E} {env : Ev} {st s : Sto} {xs : List D} (h : bor a (ev gl cf a env st) env st = some (.list xs, s)) : evi gl cf (.enm a) env st = some (enumD 0 xs, s) := by
  show bnd (bor a (ev gl cf a env st) env st) (fun x s => ret ((items x).map (enumD 0)) s) = _
  rw [h]; rfl
theorem enumD_mem : ∀ (l : List Int) (i : Nat) (x : D), x ∈ enumD i (l.map .int) → ∃ (j : Nat) (y : Int), j < i + l.length ∧ x = .tuple [.int (j : Nat), .int y]
  | [], _, _, h => by cases h
  | a :: l, i, x, h => by
    rw [List.map_cons] at h
    unfold enumD at h
    rcases List.mem_cons.mp h with rfl | h
    · exact ⟨i, a, by simp, rfl⟩
    · obtain ⟨j, y, h1, h2⟩ := enumD_mem l (i + 1) x h
      exact ⟨j, y, by rw [List.length_cons]; omega, h2⟩
theorem ixN_nat' {n j : Nat} (hj : j < n) : L2.ixN n (j : Int) = some j := by
  unfold L2.ixN
  rw [if_pos (by omega), if_pos (by omega)]
  simp
theorem set_ints (cs : List Int) (m : Nat) (v : Int) (h : m < cs.length) : setNth (cs.map .int) (.int (m : Nat)) (.int v) = some ((cs.set m v).map .int) := by
  show (L2.ixN (cs.map PyData.int).length (m : Nat)).map (fun j => (cs.map PyData.int).set j (.int v)) = _
  rw [List.length_map, ixN_nat' h]
  simp
theorem cells_body (ns : List Int) (t : Nat) (ht : 0 < t) (ht2 : t ≤ 63) (st : Sto) : ∃ cs : List Int, 0 < cs.length ∧ cs.length ≤ t ∧
    out (execs gl cf W bCells [.sh (.list (ns.map .int)), .sh (.int (t : Nat)), .no, .no, .no, .no] st) = some (.fr (.list (cs.map .int)), st) := by
  have hcut : ∀ lo hi, cutD (ns.map PyData.int) lo hi = ((ns.drop (HT.sIx ns.length 0 lo)).take (HT.sIx ns.length ns.length hi - HT.sIx ns.length 0 lo)).map .int := fun lo hi => by
    unfold cutD
    rw [List.length_map, ← List.map_drop, ← List.map_take]
  have hl : bor (.sl (.v 0) .no (.yes (.v 1))) (ev gl cf (.sl (.v 0) .no (.yes (.v 1))) [.sh (.list (ns.map .int)), .sh (.int (t : Nat)), .no, .no, .no, .no] st) [.sh (.list (ns.map .int)), .sh (.int (t : Nat)), .no, .no, .no, .no] st = some (.list ((ns.take t).map .int), st) := by
    refine bor_E rfl (ev_sl (x := .list (ns.map .int)) (bor_sh rfl) evo_no (evo_yes (i := (t : Nat)) (bor_sh rfl)) (r := .fr (.list ((ns.take t).map .int))) ?_) rfl
    show some (Vl.fr (.list (cutD (ns.map PyData.int) none (some (t : Nat))))) = _
    rw [hcut, HT.sIx_none, HT.sIx_nat, List.drop_zero, Nat.sub_zero, ← List.take_eq_take_min]
  have hown : ∃ cs : List Int, 0 < cs.length ∧ cs.length ≤ t ∧ (t < ns.length → cs.length = t) ∧ ev gl cf (.or (.f1 .list (.sl (.v 0) .no (.yes (.v 1)))) (.lst (.cons (.int 0) .nil))) [.sh (.list (ns.map .int)), .sh (.int (t : Nat)), .no, .no, .no, .no] st = some (.fr (.list (cs.map .int)), st) := by
    cases ns with
    | nil => exact ⟨[0], by decide, ht, fun h => by simp at h, ev_or2 (w := .fr (.list [])) (ev_f1 (x := .list []) (by rw [hl]; simp) rfl) rfl rfl rfl⟩
    | cons a r =>
      refine ⟨(a :: r).take t, by rw [List.length_take, List.length_cons]; omega, by rw [List.length_take]; omega, fun h => by rw [List.length_take]; omega, ev_or1 (x := .list (((a :: r).take t).map .int)) (ev_f1 hl rfl) rfl ?_⟩
      obtain ⟨u, rfl⟩ : ∃ u, t = u + 1 := ⟨t - 1, by omega⟩
      rfl
  obtain ⟨cs, h1, h2, h3, h4⟩ := hown
  have hs : ∀ x : D, evi gl cf (.enm (.sl (.v 0) (.yes (.v 1)) (.yes (.int 63)))) [.sh (.list (ns.map .int)), .sh (.int (t : Nat)), .ow x, .no, .no, .no] st = some (enumD 0 (((ns.drop t).take (63 - t)).map .int), st) := fun x => by
    refine evi_enm (bor_E (w := .fr (.list (((ns.drop t).take (63 - t)).map .int))) rfl (ev_sl (x := .list (ns.map .int)) (bor_sh rfl) (evo_yes (i := (t : Nat)) (bor_sh rfl)) (evo_yes (i := (63 : Nat)) (bor_E rfl rfl rfl)) ?_) rfl)
    show some (Vl.fr (.list (cutD (ns.map PyData.int) (some (t : Nat)) (some ((63 : Nat) : Int))))) = _
    rw [hcut, HT.sIx_nat, HT.sIx_nat]
    congr 4
    by_cases h : t ≤ ns.length
    · rw [Nat.min_eq_left h]
      by_cases h5 : 63 ≤ ns.length
      · rw [Nat.min_eq_left h5]
      · rw [Nat.min_eq_right (by omega), List.take_of_length_le (by rw [List.length_drop]; omega), List.take_of_length_le (by rw [List.length_drop]; omega)]
    · rw [List.drop_of_length_le (by omega), List.drop_of_length_le (by omega), List.take_nil, List.take_nil]
  refine ?_
  generalize hys : (ns.drop t).take (63 - t) = ys at hs
  have hyl : ys.length ≤ 63 := by rw [← hys, List.length_take]; omega
  have hcs : ys ≠ [] → cs.length = t := fun h => h3 (by
    by_cases q : t < ns.length
    · exact q
    · exact absurd (by rw [← hys, List.drop_of_length_le (by omega), List.take_nil]) h)
  obtain ⟨e2, s2, hf, cs2, a2, b2, c2, hl2, he2, hs2⟩ := forL_inv (bd := bindT (.t (.cons (.n 3) (.cons (.n 4) .nil)))) (body := fun e1 s1 => execs gl cf W (.cons (.asg (.n 5) (.bin .mod (.f1 .int (.v 3)) (.v 1))) (.cons (.stix 2 (.v 5) (.bin .add (.ix (.v 2) (.v 5)) (.bin .mul (.v 4) (.bin .add (.v 3) (.int 2))))) .nil)) e1 s1)
    (fun _ env s => ∃ (cs' : List Int) (a b c : Slot), cs'.length = cs.length ∧ env = [.sh (.list (ns.map .int)), .sh (.int (t : Nat)), .ow (.list (cs'.map .int)), a, b, c] ∧ s = st)
    (ys := enumD 0 (ys.map .int)) (fun pre x post env s e ⟨cs', a, b, c, hl', he, hst⟩ => by
      subst he hst
      obtain ⟨j, y, hj, hx⟩ := enumD_mem ys 0 x (by rw [e]; simp)
      subst hx
      have hn : ys ≠ [] := fun z => by subst z; simp at hj
      have hlt := hcs hn
      have hm : j % t < cs'.length := by rw [hl', hlt]; exact Nat.mod_lt _ ht
      have hj2 : ((j : Nat) : Int) < 100 := by omega
      have hj0 : (0 : Int) ≤ ((j : Nat) : Int) := by omega
      have ha : ixD (.list (cs'.map .int)) (.int ((j % t : Nat) : Int)) = some (.int cs'[j % t]) := atI_nat (by rw [List.getElem?_map, List.getElem?_eq_getElem hm]; rfl)
      have ha2 : ixD (.list (cs'.map .int)) (.int ((j : Nat) : Int)) = ixD (.list (cs'.map .int)) (.int ((j : Nat) : Int)) := rfl
      have hmd : binD .mod (.int (j : Nat)) (.int (t : Nat)) = some (.d (.int ((j % t : Nat) : Int))) := by rw [modP (by omega)]; rfl
      refine ⟨[.sh (.list (ns.map .int)), .sh (.int (t : Nat)), .ow (.list (cs'.map .int)), .sh (.int (j : Nat)), .sh (.int y), c], [.sh (.list (ns.map .int)), .sh (.int (t : Nat)), .ow (.list ((cs'.set (j % t) (cs'[j % t] + y * ((j : Nat) + 2))).map .int)), .sh (.int (j : Nat)), .sh (.int y), .sh (.int ((j % t : Nat) : Int))], s, rfl, .inl ?_, ⟨_, _, _, _, by rw [List.length_set]; exact hl', rfl, rfl⟩⟩
      refine exs_cons (ex_asg (x := .int ((j % t : Nat) : Int)) (s := s) (toD_E (ev_bin (bor_E rfl (ev_f1 (bor_sh rfl) rfl) rfl) (bor_sh rfl) hmd) rfl) rfl) ?_
      refine exs_cons (ex_stixO (y := .int (cs'[j % t] + y * ((j : Nat) + 2))) (s := s) (kx := .int ((j % t : Nat) : Int)) (s1 := s) ?_ (bor_sh rfl) rfl (set_ints _ _ _ hm)) rfl
      exact toD_E (ev_bin (bor_E rfl (ev_ix (bor_ow rfl) (bor_sh rfl) ha) rfl) (bor_E rfl (ev_bin (bor_sh rfl) (bor_E rfl (ev_bin (bor_sh rfl) (bor_E rfl rfl rfl) (addI _ _)) rfl) (mulR ⟨by omega, by omega⟩)) rfl) (addI _ _)) rfl)
    _ [] [.sh (.list (ns.map .int)), .sh (.int (t : Nat)), .ow (.list (cs.map .int)), .no, .no, .no] st rfl ⟨cs, _, _, _, rfl, rfl, rfl⟩
  refine ⟨cs2, by omega, by omega, ?_⟩
  refine o_own h4 rfl ?_
  refine o_cons (ex_for (hs _) hf rfl) ?_
  subst he2 hs2
  exact o_reto rfl
def bBox (q : Int) : Ss := (.cons (.asg (.n 2) (.ite (.cmp .lt (.v 1) (.f1 .len (.v 0))) (.ix (.v 0) (.v 1)) (.int 0))) (.cons (.rbox (.cons (.bin .mul (.f1 .abs (.v 2)) (.f1 .int (.cmp .ge (.f1 .abs (.v 2)) (.bin .pow (.int 10) (.int 18))))) (.cons (.bin .add (.bin .add (.bin .mod (.f1 .int (.v 2)) (.int 2305843009213693951)) (.bin .mul (.int 39373) (.v 1))) (.int q)) (.cons (.int 0) .nil)))) .nil))
theorem box_body (q : Int) (cs : List Int) (i : Nat) (hi : i < cs.length) (st : Sto) : ∃ a b : Int,
    out (execs gl cf W (bBox q) [.sh (.list (cs.map .int)), .sh (.int (i : Nat)), .no] st) = some (.rf st.length, st ++ [[.int a, .int b, .int 0]]) := by
  have ha : ixD (.list (cs.map .int)) (.int (i : Nat)) = some (.int cs[i]) := atI_nat (by rw [List.getElem?_map, List.getElem?_eq_getElem hi]; rfl)
  generalize cs[i] = c at ha
  refine ⟨(if c < 0 then -c else c) * (if decide ((10 : Int) ^ 18 ≤ (if c < 0 then -c else c)) then 1 else 0), c % 2305843009213693951 + 39373 * (i : Nat) + q, ?_⟩
  have hl : bor (.f1 .len (.v 0)) (ev gl cf (.f1 .len (.v 0)) [.sh (.list (cs.map .int)), .sh (.int (i : Nat)), .no] st) [.sh (.list (cs.map .int)), .sh (.int (i : Nat)), .no] st = some (.int (cs.length : Nat), st) := bor_E rfl (ev_f1 (bor_sh rfl) (show some (Vl.d (.int ((cs.map PyData.int).length : Nat))) = _ by rw [List.length_map])) rfl
  refine o_asg (x := .int c) (s1 := st) (toD_E (w := .d (.int c)) (ev_ite (k := true) (x := .bool (decide (((i : Nat) : Int) < (cs.length : Nat)))) (s := st) (bor_E rfl (ev_cmp (bor_sh rfl) hl (Pi.lt_int _ _)) rfl) (by rw [decide_eq_true (by omega)]; rfl) ?_) rfl) rfl ?_
  · rw [if_pos rfl]
    exact ev_ix (bor_sh rfl) (bor_sh rfl) ha
  refine o_rbox (s := st) ?_ (by decide : (3 : Nat) ≤ SL)
  have hp : binD .pow (.int 10) (.int 18) = some (.d (.int (10 ^ 18))) := by
    show Option.map (fun k => Vl.d (.int k)) (powD 10 18) = _
    have : powD 10 18 = some (10 ^ 18) := by decide +kernel
    rw [this]; rfl
  have hab : ∀ e : Ev, look e 2 = .sh (.int c) → bor (.f1 .abs (.v 2)) (ev gl cf (.f1 .abs (.v 2)) e st) e st = some (.int (if c < 0 then -c else c), st) := fun e he => bor_E rfl (ev_f1 (bor_sh he) rfl) rfl
  refine evs_cons (s := st) (toD_E (ev_bin (hab _ rfl) (bor_E rfl (ev_f1 (bor_E rfl (ev_cmp (hab _ rfl) (bor_E rfl (ev_bin (bor_E rfl rfl rfl) (bor_E rfl rfl rfl) hp) rfl) (Pi.ge_int _ _)) rfl) rfl) rfl) (mulR ?_)) rfl) ?_
  · generalize decide ((10 : Int) ^ 18 ≤ (if c < 0 then -c else c)) = kk
    cases kk <;> exact ⟨by decide, by decide⟩
  refine evs_cons (s := st) (toD_E (ev_bin (bor_E rfl (ev_bin (bor_E rfl (ev_bin (bor_E rfl (ev_f1 (bor_sh rfl) rfl) rfl) (bor_E rfl rfl rfl) (modP (by decide))) rfl) (bor_E rfl (ev_bin (bor_E rfl rfl rfl) (bor_sh rfl) (mulL ⟨by decide, by decide⟩)) rfl) (addI _ _)) rfl) (bor_E rfl rfl rfl) (addI _ _)) rfl) ?_
  rfl
theorem box_new {st : Sto} {a b : Int} (hs : scalS st = true) : BoxOk 0 (st ++ [[.int a, .int b, .int 0]]) st.length := ⟨a, b, 0, by simp, by omega, by omega, scal_app hs rfl⟩
end
end Pi

end
section
set_option Elab.async false
set_option linter.all false
set_option maxRecDepth 100000
set_option maxHeartbeats 4000000
namespace Pi
open PySem
def bSame (f : Nat) : Ss := (.cons (.ite (.isi (.v 1) [.list, .tuple]) (.cons (.ite (.cmp .ne (.isi (.v 0) [.list]) (.isi (.v 1) [.list])) (.cons (.ret (.bl false)) .nil) .nil) (.cons (.ite (.cmp .ne (.isi (.v 0) [.tuple]) (.isi (.v 1) [.tuple])) (.cons (.ret (.bl false)) .nil) .nil) (.cons (.ret (.and (.cmp .eq (.f1 .len (.v 0)) (.f1 .len (.v 1))) (.f1 .all (.lc [2, 3] (.call f (.cons (.v 2) (.cons (.v 3) .nil))) (.t (.cons (.n 2) (.cons (.n 3) .nil))) (.zip (.v 0) (.v 1)) .no)))) .nil))) .nil) (.cons (.ite (.or (.isN (.v 1)) (.isi (.v 1) [.bool, .str])) (.cons (.ret (.and (.cmp .eq (.v 0) (.v 1)) (.and (.cmp .eq (.isi (.v 0) [.bool]) (.isi (.v 1) [.bool])) (.cmp .eq (.isN (.v 0)) (.isN (.v 1)))))) .nil) .nil) (.cons (.ret (.and (.isi (.v 0) [.int]) (.and (.not (.isi (.v 0) [.bool])) (.cmp .eq (.v 0) (.v 1))))) .nil)))
def fine : Nat → D → Bool
  | _ + 1, .none => true
  | _ + 1, .bool _ => true
  | _ + 1, .int _ => true
  | _ + 1, .str _ => true
  | k + 1, .list xs => decide (xs.length ≤ SL) && xs.all (fine k)
  | k + 1, .tuple xs => decide (xs.length ≤ SL) && xs.all (fine k)
  | _, _ => false
theorem ok_bool (k : Bool) : okD (.bool k) = true := by simp [okD, PySem.PyData.plain, PySem.PyData.depth]
theorem ok_str (k : Str) : okD (.str k) = true := by simp [okD, PySem.PyData.plain, PySem.PyData.depth]
theorem ok_none : okD .none = true := by simp [okD, PySem.PyData.plain, PySem.PyData.depth]
theorem eq_bool (a b : Bool) : cmpD .eq (.bool a) (.bool b) = some (a == b) := by
  show (if okD (.bool a) && okD (.bool b) then some (PySem.PyData.eqv (.bool a) (.bool b)) else none) = _
  rw [ok_bool, ok_bool, if_pos (show (true && true) = true from rfl)]
  cases a <;> cases b <;> simp [PySem.PyData.eqv]
theorem ne_bool (a : Bool) : cmpD .ne (.bool a) (.bool a) = some false := by
  show (if okD (.bool a) && okD (.bool a) then some (!PySem.PyData.eqv (.bool a) (.bool a)) else none) = _
  rw [ok_bool, if_pos (show (true && true) = true from rfl)]
  cases a <;> simp [PySem.PyData.eqv]
theorem eq_self {x : D} (h : okD x = true) : cmpD .eq x x = some true := by
  show (if okD x && okD x then some (PySem.PyData.eqv x x) else none) = _
  rw [h, if_pos (show (true && true) = true from rfl)]
  have : x.plain = true := by
    unfold okD at h
    simp only [Bool.and_eq_true] at h
    exact h.1
  rw [PySem.SeqAt.eqv_refl_plain x this]
theorem len_sq (b : Bool) (xs : List D) : f1D .len (sq b xs) = some (.d (.int xs.length)) := by cases b <;> rfl
theorem zip_sq (b : Bool) (xs ys : List D) : zipQ (sq b xs) (sq b ys) = some (zipD xs ys) := by cases b <;> rfl
section
variable {gl : Nat → Option D} {W : Nat}
abbrev sEv (x : D) : Ev := [.sh x, .sh x, .no, .no]
theorem same_leaf {cf : Cf} {f : Nat} {x : D} (hx : (∃ b, x = .bool b) ∨ (∃ b, x = .str b) ∨ x = .none) (st : Sto) : out (execs gl cf W (bSame f) (sEv x) st) = some (.d (.bool true), st) := by
  have ok : okD x = true := by
    rcases hx with ⟨b, rfl⟩ | ⟨b, rfl⟩ | rfl
    · exact ok_bool b
    · exact ok_str b
    · exact ok_none
  have nd : noDict x = true := by rcases hx with ⟨b, rfl⟩ | ⟨b, rfl⟩ | rfl <;> rfl
  refine o_iteF (s := st) (tru_E (bor_E rfl (ev_isi (bor_sh rfl) nd) rfl) (by rcases hx with ⟨b, rfl⟩ | ⟨b, rfl⟩ | rfl <;> rfl)) ?_
  have hi : ∀ i, i < 2 → bor (.isi (.v i) [.bool]) (ev gl cf (.isi (.v i) [.bool]) (sEv x) st) (sEv x) st = some (.bool ([Ty.bool].any (isTy x)), st) := fun i hi => by
    match i, hi with
    | 0, _ => exact bor_E rfl (ev_isi (bor_sh rfl) nd) rfl
    | 1, _ => exact bor_E rfl (ev_isi (bor_sh rfl) nd) rfl
  have hc : tru (bor (.or (.isN (.v 1)) (.isi (.v 1) [.bool, .str])) (ev gl cf (.or (.isN (.v 1)) (.isi (.v 1) [.bool, .str])) (sEv x) st) (sEv x) st) = some (true, st) := by
    rcases hx with ⟨b, rfl⟩ | ⟨b, rfl⟩ | rfl <;> rfl
  refine o_iteT (s := st) hc ?_
  refine o_ret ?_
  refine ev_andT (toD_E (ev_cmp (bor_sh rfl) (bor_sh rfl) (eq_self ok)) rfl) rfl ?_
  refine ev_andT (toD_E (ev_cmp (hi 0 (by decide)) (hi 1 (by decide)) (eq_bool _ _)) rfl) (by simp [truD]) ?_
  refine (ev_cmp (r := true) (x := .bool (isNone x)) (y := .bool (isNone x)) (s := st) ?_ ?_ ?_)
  · rcases hx with ⟨b, rfl⟩ | ⟨b, rfl⟩ | rfl <;> rfl
  · rcases hx with ⟨b, rfl⟩ | ⟨b, rfl⟩ | rfl <;> rfl
  · rw [eq_bool]; simp
theorem same_num {cf : Cf} {f : Nat} {i : Int} (st : Sto) : out (execs gl cf W (bSame f) (sEv (.int i)) st) = some (.d (.bool true), st) := by
  refine o_iteF (s := st) (tru_E (bor_E rfl (ev_isi (bor_sh rfl) rfl) rfl) rfl) ?_
  refine o_iteF (s := st) rfl ?_
  refine o_ret ?_
  refine ev_andT (toD_E (ev_isi (bor_sh rfl) rfl) rfl) rfl (ev_andT rfl rfl ?_)
  exact ev_cmp (bor_sh rfl) (bor_sh rfl) (eq_self (ok_int i))
theorem same_sq {cf : Cf} {f : Nat} (b : Bool) (xs : List D) (st : Sto) (hl : xs.length ≤ SL) (h : ∀ x ∈ xs, cf f [.d x, .d x] st = some (.d (.bool true), st)) : out (execs gl cf W (bSame f) (sEv (sq b xs)) st) = some (.d (.bool true), st) := by
  have nd : noDict (sq b xs) = true := by cases b <;> rfl
  have hi : ∀ (i : Nat) (ts : List Ty), i = 0 ∨ i = 1 → bor (.isi (.v i) ts) (ev gl cf (.isi (.v i) ts) (sEv (sq b xs)) st) (sEv (sq b xs)) st = some (.bool (ts.any (isTy (sq b xs))), st) := fun i ts hh => by
    rcases hh with rfl | rfl
    · exact bor_E rfl (ev_isi (bor_sh rfl) nd) rfl
    · exact bor_E rfl (ev_isi (bor_sh rfl) nd) rfl
  refine o_iteT (s := st) (tru_E (hi 1 _ (.inr rfl)) (by cases b <;> rfl)) ?_
  refine o_iteF (s := st) (tru_E (bor_E rfl (ev_cmp (hi 0 _ (.inl rfl)) (hi 1 _ (.inr rfl)) (ne_bool _)) rfl) rfl) ?_
  refine o_iteF (s := st) (tru_E (bor_E rfl (ev_cmp (hi 0 _ (.inl rfl)) (hi 1 _ (.inr rfl)) (ne_bool _)) rfl) rfl) ?_
  refine o_ret ?_
  refine ev_andT (x := .bool true) (s := st) (toD_E (w := .d (.bool true)) (ev_cmp (bor_E rfl (ev_f1 (bor_sh rfl) (len_sq b xs)) rfl) (bor_E rfl (ev_f1 (bor_sh rfl) (len_sq b xs)) rfl) (eq_self (ok_int _))) rfl) rfl ?_
  refine ev_f1 (bor_E rfl (ev_lc (xs := xs) (fun x => .tuple [x, x]) (fun _ => .bool true) ?_ ?_ hl) rfl) ?_
  · refine evi_zip (bor_sh rfl) (bor_sh rfl) ?_
    rw [zip_sq]
    have := zipD_map (fun x : D => x) (fun x : D => x) xs
    simpa using this
  · intro x hx
    refine ⟨[.sh (sq b xs), .sh (sq b xs), .sh x, .sh x], rfl, rfl, ?_⟩
    exact toD_E (ev_call (eva_cons (ev_sh rfl) (eva_cons (ev_sh rfl) eva_nil)) (h x hx)) rfl
  · show (boolsD (xs.map fun _ => .bool true)).map (fun bs => Vl.d (.bool (bs.all id))) = _
    rw [boolsD_map (fun _ => true)]
    simp
theorem same_refl {P : List Fn} {f : Nat} (hP : P[f]? = some ⟨2, 4, bSame f⟩) : ∀ (k : Nat) (x : D) (st : Sto), fine k x = true → run gl P W k f [.d x, .d x] st = some (.d (.bool true), st)
  | 0, x, st, h => by cases x <;> simp [fine] at h
  | k + 1, x, st, h => by
    unfold run
    rw [hP]
    show out (execs gl (run gl P W k) W (bSame f) (sEv x) st) = _
    cases x with
    | none => exact same_leaf (.inr (.inr rfl)) st
    | bool b => exact same_leaf (.inl ⟨b, rfl⟩) st
    | str b => exact same_leaf (.inr (.inl ⟨b, rfl⟩)) st
    | int i => exact same_num st
    | list xs =>
      simp only [fine, Bool.and_eq_true, decide_eq_true_eq, List.all_eq_true] at h
      exact same_sq false xs st h.1 fun y hy => same_refl hP k y st (h.2 y hy)
    | tuple xs =>
      simp only [fine, Bool.and_eq_true, decide_eq_true_eq, List.all_eq_true] at h
      exact same_sq true xs st h.1 fun y hy => same_refl hP k y st (h.2 y hy)
    | dict _ => simp [fine] at h
end
end Pi

end
section
set_option Elab.async false
set_option linter.all false
set_option maxRecDepth 100000
set_option maxHeartbeats 4000000
namespace Pi
open PySem
section
variable {gl : Nat → Option D} {cf : Cf} {W : Nat}
theorem turns_inv2 {bd : D → Ev → Option Ev} {tt : Ev → Sto → Option (Bool × Sto)} {el : Ev → Sto → Option (D × Sto)} {env : Ev} {ys : List D} (I : List D → Sto → Prop)
    (h : ∀ pre x post acc st, ys = pre ++ x :: post → acc.length = pre.length → I acc st → ∃ e1 y s2, bd x env = some e1 ∧ tt e1 st = some (true, st) ∧ el e1 st = some (y, s2) ∧ I (acc ++ [y]) s2) (hl : ys.length ≤ SL) :
    ∀ (xs pre acc : List D) (st : Sto), ys = pre ++ xs → acc.length = pre.length → I acc st → ∃ zs s2, turns bd tt el env xs acc st = some (zs, s2) ∧ I zs s2 ∧ zs.length = ys.length
  | [], pre, acc, st, e, hn, hi => ⟨acc, st, rfl, hi, by rw [e, List.append_nil]; exact hn⟩
  | x :: xs, pre, acc, st, e, hn, hi => by
    obtain ⟨e1, y, s2, h1, h2, h3, h4⟩ := h pre x xs acc st e hn hi
    obtain ⟨zs, s3, h5, h6, h7⟩ := turns_inv2 I h hl xs (pre ++ [x]) (acc ++ [y]) s2 (by rw [e]; simp) (by simp [hn]) h4
    refine ⟨zs, s3, ?_, h6, h7⟩
    have hlt : acc.length < SL := by
      have := congrArg List.length e
      rw [List.length_append, List.length_cons] at this
      omega
    unfold turns
    simp only [h1, h2, h3, bnd_some]
    rw [if_pos trivial, if_pos hlt]
    exact h5
theorem ev_lcI {vs : List Nat} {e : E} {t : Tg} {it : It} {c : Oe} {env : Ev} {st s : Sto} {xs : List D} (I : List D → Sto → Prop) (hi : evi gl cf it env st = some (xs, s)) (h0 : I [] s)
    (h : ∀ pre x post acc st, xs = pre ++ x :: post → acc.length = pre.length → I acc st → ∃ e1 y s2, bindT t x (wipeE env vs) = some e1 ∧ evc gl cf c e1 st = some (true, st) ∧ toD (ev gl cf e e1 st) = some (y, s2) ∧ I (acc ++ [y]) s2) (hl : xs.length ≤ SL) :
    ∃ ys s2, ev gl cf (.lc vs e t it c) env st = some (.fr (.list ys), s2) ∧ I ys s2 ∧ ys.length = xs.length := by
  obtain ⟨ys, s2, h1, h2, h3⟩ := turns_inv2 (bd := bindT t) (tt := fun e1 s1 => evc gl cf c e1 s1) (el := fun e1 s1 => toD (ev gl cf e e1 s1)) (env := wipeE env vs) I h hl xs [] [] s rfl rfl h0
  refine ⟨ys, s2, ?_, h2, h3⟩
  show bnd (evi gl cf it env st) (fun xs s => bnd (turns (bindT t) (fun e1 s1 => evc gl cf c e1 s1) (fun e1 s1 => toD (ev gl cf e e1 s1)) (wipeE env vs) xs [] s) fun ys s' => some (Vl.fr (.list ys), s')) = _
  rw [hi, bnd_some, h1, bnd_some]
theorem all_true {vs : List Nat} {e : E} {t : Tg} {it : It} {c : Oe} {env : Ev} {st s : Sto} {xs : List D} (I : Nat → Sto → Prop) (hi : evi gl cf it env st = some (xs, s)) (h0 : I 0 s)
    (h : ∀ pre x post st, xs = pre ++ x :: post → I pre.length st → ∃ e1 s2, bindT t x (wipeE env vs) = some e1 ∧ evc gl cf c e1 st = some (true, st) ∧ toD (ev gl cf e e1 st) = some (.bool true, s2) ∧ I (pre.length + 1) s2) (hl : xs.length ≤ SL) :
    ∃ s2, ev gl cf (.f1 .all (.lc vs e t it c)) env st = some (.d (.bool true), s2) ∧ I xs.length s2 := by
  obtain ⟨ys, s2, h1, ⟨h2, h3⟩, h4⟩ := ev_lcI (gl := gl) (cf := cf) (vs := vs) (e := e) (t := t) (c := c) (fun acc st => (∀ y ∈ acc, y = .bool true) ∧ I acc.length st) hi ⟨fun _ h => (by cases h), h0⟩ (fun pre x post acc st e hn ⟨i1, i2⟩ => by
    obtain ⟨e1, s2, q1, q2, q3, q4⟩ := h pre x post st e (by rw [← hn]; exact i2)
    refine ⟨e1, _, s2, q1, q2, q3, ?_, by rw [List.length_append, List.length_singleton, hn]; exact q4⟩
    intro y hy
    rcases List.mem_append.mp hy with hy | hy
    · exact i1 y hy
    · exact List.mem_singleton.mp hy) hl
  refine ⟨s2, ev_f1 (bor_E rfl h1 rfl) ?_, h4 ▸ h3⟩
  show (boolsD ys).map (fun bs => Vl.d (.bool (bs.all id))) = _
  have hb : ∀ zs : List D, (∀ y ∈ zs, y = .bool true) → boolsD zs = some (List.replicate zs.length true) := fun zs => by
    induction zs with
    | nil => exact fun _ => rfl
    | cons z zs ih =>
      intro hz
      have := hz z List.mem_cons_self
      subst this
      show (boolsD zs).map (true :: ·) = _
      rw [ih fun y hy => hz y (List.mem_cons_of_mem _ hy)]; rfl
  rw [hb ys h2]
  simp
end
end Pi

end
section
set_option Elab.async false
set_option linter.all false
set_option maxRecDepth 100000
set_option maxHeartbeats 4000000
namespace Pi
open PySem
section
variable {gl : Nat → Option D} {W : Nat}
end
end Pi

end
section
set_option Elab.async false
set_option linter.all false
set_option maxRecDepth 100000
set_option maxHeartbeats 4000000
namespace Pi
open PySem
section
variable {gl : Nat → Option D} {cf : Cf} {W : Nat}
end
theorem eq_str (x y : Str) : cmpD .eq (.str x) (.str y) = some (x == y) := by
  show (if okD (.str x) && okD (.str y) then some (PySem.PyData.eqv (.str x) (.str y)) else none) = _
  rw [ok_str, ok_str, if_pos (show (true && true) = true from rfl)]
  simp [PySem.PyData.eqv]
end Pi
namespace Pi
open PySem
section
variable {gl : Nat → Option D} {cf : Cf} {W : Nat}
end
end Pi

end
section
set_option Elab.async false
set_option linter.all false
set_option maxRecDepth 100000
set_option maxHeartbeats 4000000
namespace Pi
open PySem
section
variable {gl : Nat → Option D} {cf : Cf} {W : Nat}
theorem ev_rfQ {i n : Nat} {env : Ev} {st : Sto} (h : look env i = .rf n) : ev gl cf (.v i) env st = some (.rf n, st) := by
  show (match look env i with | .sh x => some (Vl.d x, st) | .rf n => some (Vl.rf n, st) | _ => none) = _
  rw [h]
end
end Pi

end
section
set_option Elab.async false
set_option linter.all false
set_option maxRecDepth 100000
set_option maxHeartbeats 4000000
namespace Pi
open PySem
section
variable {gl : Nat → Option D} {cf : Cf} {W : Nat}
end
end Pi

end
section
set_option Elab.async false
set_option linter.all false
set_option maxRecDepth 100000
set_option maxHeartbeats 1000000
namespace Pi
open PySem
section
variable {gl : Nat → Option D} {cf : Cf} {W : Nat}
end
end Pi

end
section
set_option Elab.async false
set_option linter.all false
set_option maxRecDepth 100000
set_option maxHeartbeats 1000000
namespace Pi
open PySem PySem.Spec PyProof.Rows L2
section
variable {K : PySem.W.Frag} {M M' M1 M2 : List Addr} {U U' Z W W1 : Addr → Prop} {H H' H1 H2 : Hp} {st st' st1 : Sto} {σ σ' σ1 : L2.St} {env env' env1 : Ev} {D : Ends} {fld : Str} {Wx : Addr → Hp → Prop}
end
end Pi

end
section
set_option Elab.async false
set_option linter.all false
set_option maxRecDepth 100000
set_option maxHeartbeats 4000000
namespace Pi
open PySem PySem.Spec PyProof.Rows L2
section
variable {C : Ck} {gl : Nat → Option D} {cf : Cf} {X : Cx} {sc : Scope} {W : Nat}
def spX (K : PySem.W.Frag) (c : List Vl → Sto → Option (Vl × Sto)) (np : Nat) (fld : Str) (Ca : Addr) : Sp := fun vs H _ E => vs.length = np ∧ ∃ M U st ws w p st', StoOk K M U H st ∧ VsAll K M U H vs ws ∧ c ws st = some (w, st') ∧ w.toD = some p ∧
  ∀ v H' M' d, Stp M H M' H' → StoOk K M' U H' st' → Rp K (Bar M' U) H' v p → H' d = none → E (.ref Ca) (some d) (upd H' d (.xd [(fld, v)]))
structure XrOk (C : Ck) (cf : Cf) (X : Cx) (ca : Nat → Addr) : Prop where
  cls : ∀ q n f, C.xs[q]? = some (n, f) → ClsOk X.K X.mg n f (ca q)
  xm : ∀ q x n f n' f', C.xs[q]? = some (n, f) → C.xs[x]? = some (n', f') → q ≠ x → PySem.W.exmOne X.K (.ref (ca q)) (.ref (ca x)) = some false
  fns : ∀ i nm n q xn xf, C.fs[i]? = some (nm, n) → C.xs[q]? = some (xn, xf) → i < 1000 → ∃ k fa fd ps, ps.length = n ∧ FnOk X.prog X.w X.K X.mg X.base (L2N.CX X.prog X.w) k fa fd ps (spX X.K (cf (i + 1000 * (q + 1))) ps.length xf (ca q)) ∧ Room k X.A ∧ X.mg nm = some (.ref fa) ∧ PySem.W.keepIn X.K (.ref fa) = true ∧ Binds X.K fd ps [] ∧
    (∀ ws st r, cf (i + 1000 * (q + 1)) ws st = some r → ws.length = ps.length)
variable {q : Nat} {Cn fld : Str} {ca : Nat → Addr} {Wx : Addr → Hp → Prop} {rs : Scope}
end
end Pi

end
section
set_option Elab.async false
set_option linter.all false
set_option maxRecDepth 100000
set_option maxHeartbeats 4000000
namespace Pi
open PySem PySem.Spec PyProof.Rows L2
section
variable {C : Ck} {gl : Nat → Option D} {cf : Cf} {X : Cx} {sc : Scope} {W : Nat} {ca : Nat → Addr}
def Hd.vs (h : Hd) (v : V) : List V := v :: (match h.base with | some _ => [.bl true] | none => [])
theorem XOk.tr (ok : XOk C gl cf X sc sc) (pn : List (Addr × Obj)) (xe : Value → Shared → Prop) : XOk C gl cf (X.tr pn xe) sc sc := ⟨ok.calm, ok.nd, ok.N, ok.sc, ok.fn, ok.un, ok.blt, ok.con, ok.fns, ok.xc, ok.fnt⟩
theorem XrOk.tr (xr : XrOk C cf X ca) (pn : List (Addr × Obj)) (xe : Value → Shared → Prop) : XrOk C cf (X.tr pn xe) ca := ⟨xr.cls, xr.xm, xr.fns⟩
def Hh.ws (h : Hh) (v : V) : List V := match h.kd with
  | 3 => h.tags.map V.str ++ [.bl true]
  | _ => h.tags.map V.str ++ h.hd.vs v
def Wvk (kd : Nat) (tags : List Str) (v : V) (H : Hp) (Q : V → Hp → Prop) : Prop := match kd with
  | 0 => Q v H
  | 1 => ∃ g s, tags = [g] ∧ v = .str s ∧ g.length + s.length ≤ sizeLine ∧ Q (.str (g ++ s)) H
  | _ + 2 => ∀ p, H p = none → Q (.ref p) (upd H p (.lst (tags.map V.str ++ [v])))
theorem Wvk.imp {kd : Nat} {tags : List Str} {v : V} {H : Hp} {Q Q' : V → Hp → Prop} (h : ∀ y H, Q y H → Q' y H) (w : Wvk kd tags v H Q) : Wvk kd tags v H Q' := by
  match kd with
  | 0 => exact h _ _ w
  | 1 => obtain ⟨g, s, e1, e2, e3, e4⟩ := w; exact ⟨g, s, e1, e2, e3, h _ _ e4⟩
  | _ + 2 => exact fun p np => h _ _ (w p np)
end
section
variable {K : PySem.W.Frag} {gl : Nat → Option D} {P : List Fn} {W : Nat}
theorem chkB_hrd {C : Ck} {sc : Scope} {B : Ss} {l : List Stmt} (h : chkB C sc B l = true) : chkSs C sc B l = true := h
theorem chk_no {C : Ck} {sc : Scope} {s : S} {ss : Ss} {l : List Stmt} (hs : ∀ st, chkS C sc s st = false) (h : chkSs C sc (.cons s ss) l = true) : False := by
  cases l with
  | nil => cases h
  | cons a b =>
    have h : (chkS C sc s a && chkSs C sc ss b) = true := h
    rw [hs] at h
    cases h
def ktS (kt : List Nat) : Ss → Bool
  | .cons (.ret (.f1 .tuple (.f1 .sset _))) .nil => true
  | .cons (.ret (.call g (.cons _ _))) .nil => kt.contains g
  | _ => false
def ktB (T : Tbl) (P : List Fn) : Bool := T.kt.all fun i => match P[i]? with | some F => ktS T.kt F.body | none => false
theorem ktB_at {T : Tbl} {P : List Fn} (h : ktB T P = true) {i : Nat} {F : Fn} (hi : T.kt.contains i = true) (hF : P[i]? = some F) : ktS T.kt F.body = true := by
  have := List.all_eq_true.mp h i (List.contains_iff_mem.mp hi)
  rw [hF] at this
  exact this
theorem strs_map (ys : List Str) : strsD (ys.map PyData.str) = some ys := by
  induction ys with
  | nil => rfl
  | cons y ys ih =>
    show (strsD (ys.map PyData.str)).map (y :: ·) = _
    rw [ih]; rfl
section
variable {X : Cx} {C : Ck} {gl : Nat → Option D} {cf : Cf} {sc : Scope}
theorem se_ktup {a : E} {x : Expr} (ok : XOk C gl cf X sc sc) (h : chkE C (.f1 .tuple (.f1 .sset a)) sc sc x = true) : PE X x (SemK X.K (ev gl cf (.f1 .tuple (.f1 .sset a)))) := by
  unfold chkE at h; split at h
  · simp only [Bool.and_eq_true, decide_eq_true_eq] at h
    obtain ⟨⟨rfl, h2⟩, h3⟩ := h
    rw [if_neg (by decide)] at h3
    rw [Bool.and_eq_true] at h3
    obtain ⟨h4, h5⟩ := h3
    rename_i y p z q
    have hx := sndB ok h5 (sndE (.f1 .sset a) ok h5)
    have hs : starEach [z] X.env = (false, eval z X.env) :: starEach [] X.env := star1 h4 [] X.env
    have pa : PA X [z] (tCons (SemB X.K fun env st => bor (.f1 .sset a) (ev gl cf (.f1 .sset a) env st) env st) tNil) := pa_cons hx pa_nil hs
    refine peImp (pe_callTy Pk.call_tupleF (blt_of ok h2).1 (blt_of ok h2).2 (by decide +kernel) pa (by decide +kernel) (by decide +kernel) hs rfl) fun σ H Q ⟨M, U, st, env, ys, st', er, ex, q⟩ => ?_
    obtain ⟨u, s, e1, e2⟩ := bnd_eq (show bnd (bor (.f1 .sset a) (ev gl cf (.f1 .sset a) env st) env st) (fun x s => ret (f1D .tuple x) s) = some (.d (.tuple (ys.map .str)), st') from ex)
    obtain ⟨e3, rfl⟩ := ret_eq e2
    obtain ⟨w, s1, e4, e5⟩ := bnd_eq (show bnd (ev gl cf (.f1 .sset a) env st) (fun w s => ret w.toD s) = some (u, s) from e1)
    obtain ⟨e6, rfl⟩ := ret_eq e5
    obtain ⟨v, s2, e7, e8⟩ := bnd_eq (show bnd (bor a (ev gl cf a env st) env st) (fun x s => ret (f1D .sset x) s) = some (w, s1) from e4)
    obtain ⟨e9, rfl⟩ := ret_eq e8
    obtain ⟨l, rfl⟩ : ∃ l, w = .fr (.list l) := by
      cases v <;> first | (obtain ⟨l, _, rfl⟩ := Option.map_eq_some_iff.mp e9; exact ⟨l, rfl⟩) | cases e9
    cases e6
    cases e3
    refine ⟨M, U, st, env, _, _, er, e1, fun v H1 M1 p1 so1 r1 => ?_⟩
    obtain ⟨b, vs, rfl, hb, ra⟩ := r1.w.list
    have ev := rp_strs ra (strs_map ys)
    subst ev
    refine ⟨b, _, rfl, hb, fun p ob hp hd => q p _ M1 (p1.trans (Stp.grow (growN hp))) (so1.grow (growN hp)) ⟨p, ob, rfl, hd, upd_same, fun z => ?_⟩⟩
    obtain ⟨o, z⟩ := so1.tracked p z
    rw [hp] at z; cases z
  · cases h
theorem se_kcall {f : Nat} {es : Es} {x : Expr} (ok : XOk C gl cf X sc sc) (hf : C.kt.contains f = true) (h : chkE C (.call f es) sc sc x = true) (he : ∃ e es', es = .cons e es') : PE X x (SemK X.K (ev gl cf (.call f es))) := by
  unfold chkE at h; split at h
  · simp only [Bool.and_eq_true] at h
    obtain ⟨⟨⟨h1, h2⟩, h3⟩, h4⟩ := h
    obtain ⟨k, fa, fd, ps, hl, F, hr, hm, hk, hb, np⟩ := ok.fnt f _ _ (beq_iff_eq.mp h1) hf
    obtain ⟨e, es', rfl⟩ := he
    rename_i y0 p0 l q0
    cases l with
    | nil => cases h4
    | cons a b => exact se_callT F hr (gl_of ok h2) hm hk hb np (nm_of h3).1 (chkEs_len _ _ h4).2 (sndA (.cons e es') ok h4)
  · cases h
theorem ret_out {cf : Cf} {W n : Nat} {e : E} {env : Ev} {st : Sto} {r : Vl × Sto} (h : outB gl cf W n (.cons (.ret e) .nil) env st = some r) : ev gl cf e env st = some r := by
  have h : out (sbnd (match ev gl cf e env st with | some (w, s) => some (Fl.rt w, env, s) | none => none) fun e1 s1 => some (.nx, e1, s1)) = some r := h
  cases q : ev gl cf e env st with
  | none => rw [q] at h; cases h
  | some p => obtain ⟨w, s⟩ := p; rw [q] at h; exact h
end
theorem all_both {Pg : Program} {w : World} {mg : Str → Option Value} {base : Heap} {T : Tbl} {es : List Ent} (hE : ∀ (i : Nat) (e : Ent), es[i]? = some e → ∃ f fd, EntOk K mg T i e f fd)
    (hC : ∀ (i : Nat) (e : Ent), es[i]? = some e → ∃ F, P[i]? = some F ∧ chkF T e F = true) (hF : T.fs = es.map fun e => (e.nm, e.ps.length))
    (hB : ∀ x, T.bl.contains x = true → mg x = none) (hG : ∀ (i : Nat) (x : Str), T.gs[i]? = some x → ∃ d v u, gl i = some d ∧ mg x = some u ∧ RelV v u ∧ ∀ B H, Rp K B H v d)
    (hpl : P.length ≤ 1000) (hK : ktB T P = true) (ca : Nat → Addr) (hX : ∀ q n f, T.xs[q]? = some (n, f) → ClsOk K mg n f (ca q)) (hM : ∀ q x n f n' f', T.xs[q]? = some (n, f) → T.xs[x]? = some (n', f') → q ≠ x → PySem.W.exmOne K (.ref (ca q)) (.ref (ca x)) = some false) (h9 : P.length ≤ 999) (hN : ∀ q n f, T.xs[q]? = some (n, f) → PySem.W.nsIn K mainGlobals n = some (some (.ref (ca q)))) (hO : ∀ q x n f n' f', T.xs[q]? = some (n, f) → T.xs[x]? = some (n', f') → PySem.W.kitOne K (.ref (ca q)) (.ref (ca x)) = some (n == n')) :
    ∀ (k : Nat), (∀ (i : Nat) (e : Ent) (f : Addr) (fd : FuncData), es[i]? = some e → EntOk K mg T i e f fd → FnOk Pg w K mg base L2.CX0 k f fd e.ps (spF K (run gl P W k i) e.ps.length)) ∧
      (∀ (i : Nat) (e : Ent) (f : Addr) (fd : FuncData), es[i]? = some e → T.kt.contains i = true → EntOk K mg T i e f fd → FnOk Pg w K mg base L2.CX0 k f fd e.ps (spT K (run gl P W k i) e.ps.length))
  | 0 => ⟨fun i e f fd he ok => ⟨fun vs H Q E h => h.1, fun A outer s H args us vs Q E _ _ _ _ ⟨_, _, _, _, _, _, _, _, _, e, _⟩ => by cases e⟩,
      fun i e f fd he hi ok => ⟨fun vs H Q E h => h.1, fun A outer s H args us vs Q E _ _ _ _ ⟨_, _, _, _, _, _, _, _, _, e, _⟩ => by cases e⟩⟩
  | k + 1 => by
    obtain ⟨ih1, ih3⟩ := all_both hE hC hF hB hG hpl hK ca hX hM h9 hN hO (Pg := Pg) (w := w) (base := base) k
    have xcs : ∀ (A : Around), Room k A → XcOk T.xs (run gl P W k) K mg A := fun A hr => ⟨fun n f h => by
        obtain ⟨q, hq⟩ := List.getElem?_of_mem h
        exact ⟨ca q, hN _ _ _ hq, hX _ _ _ hq⟩, fun n f n' f' Ca Cb h1 h2 e1 e2 => by
        obtain ⟨q, hq⟩ := List.getElem?_of_mem h1
        obtain ⟨x, hx⟩ := List.getElem?_of_mem h2
        rw [hN _ _ _ hq] at e1
        rw [hN _ _ _ hx] at e2
        cases e1; cases e2
        exact hO _ _ _ _ _ _ hq hx, fun ws st r e => by
        refine hr.mono ?_
        cases k with
        | zero => cases e
        | succ k =>
          unfold run at e
          have z : P[999]? = none := List.getElem?_eq_none (by omega)
          rw [z] at e
          simp only [] at e
          split at e
          · rename_i hn
            exact Nat.le_succ_of_le hn.2
          · cases e⟩
    have fns : ∀ (C : Ck), C.fs = T.fs → C.kw = T.kw → ∀ (X : Cx), X.prog = Pg → X.w = w → X.K = K → X.mg = mg → X.base = base → Room k X.A → ∀ j nm n, C.fs[j]? = some (nm, n) → ∃ k0 fa fd ps, ps.length = n ∧ FnOk X.prog X.w X.K X.mg X.base CX0 k0 fa fd ps (spF X.K (run gl P W k j) ps.length) ∧ Room k0 X.A ∧ X.mg nm = some (.ref fa) ∧ PySem.W.keepIn X.K (.ref fa) = true ∧ Binds X.K fd ps [] ∧
        (∀ ws st r, run gl P W k j ws st = some r → ws.length = ps.length) ∧ ∀ m ks pm, (j, m, ks, pm) ∈ C.kw → KwOk X.K fd ps m ks pm := by
      intro C c1 c2 X x1 x2 x3 x4 x5 hr j nm n hj
      subst x1; subst x2; subst x3; subst x4; subst x5
      rw [c1, hF, List.getElem?_map] at hj
      obtain ⟨e2, h6, h7⟩ := Option.map_eq_some_iff.mp hj
      cases h7
      obtain ⟨f2, fd2, ok2⟩ := hE j e2 h6
      obtain ⟨F2, hP2, hc2⟩ := hC j e2 h6
      refine ⟨k, f2, fd2, e2.ps, rfl, ih1 j e2 f2 fd2 h6 ok2, hr, ok2.mgf, ok2.fn.kp, ok2.b, fun ws st r hr => ?_, by rw [c2]; exact ok2.kw⟩
      cases k with
      | zero => cases hr
      | succ k =>
        obtain ⟨F3, q1, q2, _⟩ := run_succ hP2 hr
        rw [hP2] at q1
        cases q1
        unfold chkF at hc2
        simp only [Bool.and_eq_true, decide_eq_true_eq] at hc2
        rw [q2, hc2.1.1.1.2]
    have fnt : ∀ (C : Ck), C.fs = T.fs → C.kt = T.kt → ∀ (X : Cx), X.prog = Pg → X.w = w → X.K = K → X.mg = mg → X.base = base → Room k X.A → ∀ j nm n, C.fs[j]? = some (nm, n) → C.kt.contains j = true → ∃ k0 fa fd ps, ps.length = n ∧ FnOk X.prog X.w X.K X.mg X.base CX0 k0 fa fd ps (spT X.K (run gl P W k j) ps.length) ∧ Room k0 X.A ∧ X.mg nm = some (.ref fa) ∧ PySem.W.keepIn X.K (.ref fa) = true ∧ Binds X.K fd ps [] ∧
        ∀ ws st r, run gl P W k j ws st = some r → ws.length = ps.length := by
      intro C c1 c2 X x1 x2 x3 x4 x5 hr j nm n hj hkt
      rw [c2] at hkt
      subst x1; subst x2; subst x3; subst x4; subst x5
      rw [c1, hF, List.getElem?_map] at hj
      obtain ⟨e2, h6, h7⟩ := Option.map_eq_some_iff.mp hj
      cases h7
      obtain ⟨f2, fd2, ok2⟩ := hE j e2 h6
      obtain ⟨F2, hP2, hc2⟩ := hC j e2 h6
      refine ⟨k, f2, fd2, e2.ps, rfl, ih3 j e2 f2 fd2 h6 hkt ok2, hr, ok2.mgf, ok2.fn.kp, ok2.b, fun ws st r hr => ?_⟩
      cases k with
      | zero => cases hr
      | succ k =>
        obtain ⟨F3, q1, q2, _⟩ := run_succ hP2 hr
        rw [hP2] at q1
        cases q1
        unfold chkF at hc2
        simp only [Bool.and_eq_true, decide_eq_true_eq] at hc2
        rw [q2, hc2.1.1.1.2]
    refine ⟨fun i e f fd he ok => ?_, fun i e f fd he hi ok => ?_⟩
    · obtain ⟨F, hP, hc⟩ := hC i e he
      unfold chkF at hc
      simp only [Bool.and_eq_true, decide_eq_true_eq] at hc
      obtain ⟨⟨⟨⟨h1, h2⟩, h3⟩, h4⟩, h5⟩ := hc
      have S := C8.fnScope_by h1
      have hnd : e.N.Nodup ∧ (defScope e.st).kind = .function := by
        have hn := h1
        unfold C8.scC at hn
        simp only [Bool.and_eq_true, decide_eq_true_eq] at hn
        exact ⟨hn.1.1.1.2, hn.1.1.1.1.1.1⟩
      refine L2.Fun.ok (N := e.N) ok.fn S (fun vs H Q E h => h.1) fun cdv A outer s H vs Q E hr h => ?_
      have okX : XOk (T.ck e.N) gl (run gl P W k) (cxOf L2.CX0 Pg w K mg base e.N e.nm (defScope e.st) f cdv A outer s H E).nox (defScope e.st) (defScope e.st) :=
        ⟨rfl, hnd.1, rfl, rfl, fun _ _ => rfl, (room66 hr), hB, hG, fns (T.ck e.N) rfl rfl _ rfl rfl rfl rfl rfl hr, xcs _ hr, fnt (T.ck e.N) rfl rfl _ rfl rfl rfl rfl rfl hr⟩
      have h5 := chkB_hrd h5
      rcases body_ok hP h2 h3 h4 h with hS | ⟨hd, b, hb, h2k, hS⟩ | ⟨hd, b, hb, h2k, hS⟩
      · exact ⟨_, sndSs (X := (cxOf L2.CX0 Pg w K mg base e.N e.nm (defScope e.st) f cdv A outer s H E).nox) okX hnd.2 PassesOwn.never F.body _ h5, hS⟩
      · rw [hb] at h5
        exact (chk_no (fun _ => rfl) h5).elim
      · rw [hb] at h5
        exact (chk_no (fun _ => rfl) h5).elim
    · obtain ⟨F, hP, hc⟩ := hC i e he
      have hkt := ktB_at hK hi hP
      unfold chkF at hc
      simp only [Bool.and_eq_true, decide_eq_true_eq] at hc
      obtain ⟨⟨⟨⟨h1, h2⟩, h3⟩, h4⟩, h5⟩ := hc
      have S := C8.fnScope_by h1
      have hnd : e.N.Nodup ∧ (defScope e.st).kind = .function := by
        have hn := h1
        unfold C8.scC at hn
        simp only [Bool.and_eq_true, decide_eq_true_eq] at hn
        exact ⟨hn.1.1.1.2, hn.1.1.1.1.1.1⟩
      refine L2.Fun.ok (N := e.N) ok.fn S (fun vs H Q E h => h.1) fun cdv A outer s H vs Q E hr h => ?_
      have okX : XOk (T.ck e.N) gl (run gl P W k) (cxOf L2.CX0 Pg w K mg base e.N e.nm (defScope e.st) f cdv A outer s H E).nox (defScope e.st) (defScope e.st) :=
        ⟨rfl, hnd.1, rfl, rfl, fun _ _ => rfl, (room66 hr), hB, hG, fns (T.ck e.N) rfl rfl _ rfl rfl rfl rfl rfl hr, xcs _ hr, fnt (T.ck e.N) rfl rfl _ rfl rfl rfl rfl rfl hr⟩
      obtain ⟨hl, M, U, st, ws, ys, st', so, ra, ex, q⟩ := h
      obtain ⟨F', q1, q2, q3⟩ := run_succ hP ex
      rw [hP] at q1
      cases q1
      have hs := start_ok (N := e.N) (n := F.nn - F.np) so ra (by rw [h3, q2]; omega)
      have main : ∀ (a : Pi.E) (xe : Expr) (pos : Pos), F.body = .cons (.ret a) .nil → PE (cxOf L2.CX0 Pg w K mg base e.N e.nm (defScope e.st) f cdv A outer s H E).nox xe (SemK K (ev gl (run gl P W k) a)) → defBody e.st = [.Return (some xe) pos] →
          ∃ t, PSs (cxOf L2.CX0 Pg w K mg base e.N e.nm (defScope e.st) f cdv A outer s H E).nox (defBody e.st) t ∧ t { nx := fun _ H' => Q .non H', rt := Q } (L2.start e.N vs) H := fun a xe pos hb hpe hd => by
        rw [hb] at q3
        have hev := ret_out q3
        rw [hd]
        refine ⟨_, pss_cons (ps_ret hpe) pss_nil, M, _, st, _, ys, st', hs.er, hev, fun p H' M' p1 so1 hk => q p H' M' p1 (so1.less fun b z => .inl z) (hk.keep (less_keep fun b z => .inl z))⟩
      generalize hB2 : F.body = B at hkt
      rw [hB2] at h5
      unfold ktS at hkt
      split at hkt
      · have h5 : chkSs (T.ck e.N) (defScope e.st) _ (defBody e.st) = true := h5
        generalize hd : defBody e.st = l at h5
        cases l with
        | nil => cases h5
        | cons x l =>
          have h5 : (chkS (T.ck e.N) (defScope e.st) (.ret _) x && chkSs (T.ck e.N) (defScope e.st) .nil l) = true := h5
          rw [Bool.and_eq_true] at h5
          cases l with
          | cons y l => cases h5.2
          | nil =>
            have h6 := h5.1
            unfold chkS at h6; split at h6
            · exact hd ▸ main _ _ _ hB2 (se_ktup okX h6) hd
            · cases h6
      · have h5 : chkSs (T.ck e.N) (defScope e.st) _ (defBody e.st) = true := h5
        generalize hd : defBody e.st = l at h5
        cases l with
        | nil => cases h5
        | cons x l =>
          have h5 : (chkS (T.ck e.N) (defScope e.st) (.ret _) x && chkSs (T.ck e.N) (defScope e.st) .nil l) = true := h5
          rw [Bool.and_eq_true] at h5
          cases l with
          | cons y l => cases h5.2
          | nil =>
            have h6 := h5.1
            unfold chkS at h6; split at h6
            · exact hd ▸ main _ _ _ hB2 (se_kcall okX hkt h6 ⟨_, _, rfl⟩) hd
            · cases h6
      · cases hkt
theorem all_ok {Pg : Program} {w : World} {mg : Str → Option Value} {base : Heap} {T : Tbl} {es : List Ent} (hE : ∀ (i : Nat) (e : Ent), es[i]? = some e → ∃ f fd, EntOk K mg T i e f fd)
    (hC : ∀ (i : Nat) (e : Ent), es[i]? = some e → ∃ F, P[i]? = some F ∧ chkF T e F = true) (hF : T.fs = es.map fun e => (e.nm, e.ps.length))
    (hB : ∀ x, T.bl.contains x = true → mg x = none) (hG : ∀ (i : Nat) (x : Str), T.gs[i]? = some x → ∃ d v u, gl i = some d ∧ mg x = some u ∧ RelV v u ∧ ∀ B H, Rp K B H v d)
    (hpl : P.length ≤ 1000) (hK : ktB T P = true) (ca : Nat → Addr) (hX : ∀ q n f, T.xs[q]? = some (n, f) → ClsOk K mg n f (ca q)) (hM : ∀ q x n f n' f', T.xs[q]? = some (n, f) → T.xs[x]? = some (n', f') → q ≠ x → PySem.W.exmOne K (.ref (ca q)) (.ref (ca x)) = some false) (h9 : P.length ≤ 999) (hN : ∀ q n f, T.xs[q]? = some (n, f) → PySem.W.nsIn K mainGlobals n = some (some (.ref (ca q)))) (hO : ∀ q x n f n' f', T.xs[q]? = some (n, f) → T.xs[x]? = some (n', f') → PySem.W.kitOne K (.ref (ca q)) (.ref (ca x)) = some (n == n')) (k i : Nat) (e : Ent) (f : Addr) (fd : FuncData) (he : es[i]? = some e) (ok : EntOk K mg T i e f fd) : FnOk Pg w K mg base L2.CX0 k f fd e.ps (spF K (run gl P W k i) e.ps.length) :=
  (all_both hE hC hF hB hG hpl hK ca hX hM h9 hN hO k).1 i e f fd he ok
theorem law_ok {Pg : Program} {w : World} {mg : Str → Option Value} {base : Heap} {k i : Nat} {f : Addr} {fd : FuncData} {x : Str} (F : FnOk Pg w K mg base L2.CX0 k f fd [x] (spF K (run gl P W k i) 1))
    (h : ∀ ns : List Int, ns.length ≤ 63 → ∃ st', run gl P W k i [.d (.list (ns.map .int))] [] = some (.d (.bool true), st')) :
    FnOk Pg w K mg base L2.CX0 k f fd [x] (fun vs H Q _ => ∃ (a : Addr) (ns : List Int), vs = [.ref a] ∧ SqL K H a (ns.map V.int) ∧ ns.length ≤ 63 ∧ ∀ H', Q (.bl true) H') := F.imp fun vs H Q E ⟨a, ns, e, hS, hl, q⟩ => by
  subst e
  obtain ⟨st', hr⟩ := h ns hl
  have ra : ∀ l : List Int, RpAll K (Bar [] fun _ => False) H (l.map V.int) (l.map PyData.int) := fun l => by
    induction l with
    | nil => exact .nil
    | cons b l ih => exact .cons (.int b) ih
  have at' : AtL K (Bar [] fun _ => False) H a (ns.map V.int) := by
    rcases hS with hS | hS
    · exact .inl ⟨fun z => z.elim (fun z => nomatch z) id, hS⟩
    · exact .inr hS
  exact ⟨rfl, [], fun _ => False, [], _, _, st', ⟨rfl, List.nodup_nil, fun _ z => (nomatch z), fun n xs z => (by simp at z), fun _ z => z.elim⟩, .cons (w := .d (.list (ns.map .int))) (.lst at' (ra ns)) .nil, hr, fun v H' M' s so r => by cases r; exact q H'⟩
def caOf (l : List Addr) (q : Nat) : Addr := l.getD q 0
theorem isSome_sub {K : PySem.W.Frag} {C : Addr} {b : Value} {r : Bool} (h : PySem.W.subIn K (.ref C) b = some r) : (PySem.W.clsIn K C).isSome = true := by
  obtain ⟨cd, a, _⟩ := Option.bind_eq_some_iff.mp (show PySem.W.mroIn K C b = some r from h)
  rw [a]; rfl
theorem kitCls_ref {K : PySem.W.Frag} {t : Value} {C : Addr} {b : Value} {r r2 : Bool} (h : PySem.W.subIn K (.ref C) b = some r) (ht : PySem.W.typeIn K (.ref C) = some (.type "type")) (hs : PySem.W.subIn K t (.ref C) = some r2) : PySem.W.kitCls K t (.ref C) = some r2 := by
  unfold PySem.W.kitCls
  simp only []
  rw [isSome_sub h, ht]
  simpa using hs
theorem kitOne_of {K : PySem.W.Frag} {t c : Value} {r : Bool} (hn : t ≠ c) (h : PySem.W.kitCls K t c = some r) : PySem.W.kitOne K t c = some r := by
  unfold PySem.W.kitOne
  rw [if_neg (by simpa using hn)]; exact h
theorem kit_self {K : PySem.W.Frag} (t : Value) : PySem.W.kitOne K t t = some true := by
  unfold PySem.W.kitOne
  exact if_pos (by simp)
theorem kit_no {K : PySem.W.Frag} {Ca Cb : Addr} (c5 : PySem.W.subIn K (.ref Cb) (.type "BaseException") = some true) (c6 : PySem.W.typeIn K (.ref Cb) = some (.type "type")) (sS : PySem.W.subIn K (.ref Ca) (.ref Ca) = some true) (s : PySem.W.subIn K (.ref Ca) (.ref Cb) = some false) : PySem.W.kitOne K (.ref Ca) (.ref Cb) = some false :=
  kitOne_of (fun e => by rw [← e, sS] at s; cases s) (kitCls_ref c5 c6 s)
theorem exm_no {K : PySem.W.Frag} {Ca Cb : Addr} (c5 : PySem.W.subIn K (.ref Cb) (.type "BaseException") = some true) (c6 : PySem.W.typeIn K (.ref Cb) = some (.type "type")) (s : PySem.W.subIn K (.ref Ca) (.ref Cb) = some false) : PySem.W.exmOne K (.ref Ca) (.ref Cb) = some false := by
  unfold PySem.W.exmOne
  rw [c5]
  exact (if_pos (by decide)).trans (kitCls_ref c5 c6 s)
theorem cls_mk {mg : Str → Option Value} {Cn fld x qv qual nm qn : Str} {Ca fI Cb N : Addr} {st : Stmt} {fd : FuncData} {bs bm : List Value} {sn sub ab col dd k0 k1 k2 k3 k5} (c1 : mg Cn = some (.ref Ca))
    (c2 : K.lookup Ca = some (excClassObj nm qn Ca N bs bm true sn sub ab col dd k0 k1 k2 k3 k5 "ValueError.__new__")) (c3 : PySem.HandSPX.refsVE bm = true) (c4 : PySem.W.findIn K (.ref Ca) "__setattr__" = some (some (.builtin "object.__setattr__")))
    (c5 : PySem.W.subIn K (.ref Ca) (.type "BaseException") = some true) (c6 : PySem.W.typeIn K (.ref Ca) = some (.type "type")) (c7 : PySem.W.keepIn K (.ref Ca) = true) (c8 : PySem.W.findIn K (.ref Ca) fld = some none)
    (c9 : PySem.W.findIn K (.ref Ca) "__init__" = some (some (.ref fI))) (c10 : PySem.W.typeIn K (.ref fI) = some (.type "function")) (F : L2.Fun K "__init__" qual st fI fd) (bd : Binds K fd [x, qv] []) (hsc : C8.scC [x, qv] [x, qv] (defScope st) = true) (hin : Pk.isInit x qv fld (defBody st) = true)
    (c14 : PySem.W.findIn K (.ref Ca) "__getattribute__" = some (some (.builtin "BaseException.__getattribute__"))) (c15 : PySem.W.findIn K (.ref Ca) "__getattr__" = some none) (c16 : PySem.W.hasDictIn K Ca = true)
    (c17 : PySem.W.findIn K (.ref Ca) "__class__" = some (some (.builtin "object.__class__"))) (c18 : PySem.W.specialIn K (.builtin "object.__class__") "__get__" = some (some (.builtin "getset_descriptor.__get__"))) (c19 : PySem.W.takesIn K (.builtin "object.__class__") = some true) (c20 : PySem.W.mroIn K Ca (.type "object") = some true)
    (sV : PySem.W.subIn K (.ref Ca) (.type "ValueError") = some true) (sS : PySem.W.subIn K (.ref Ca) (.ref Ca) = some true) (sB : PySem.W.subIn K (.ref Ca) (.ref Cb) = some true) (r1 : mg "RuleError" = some (.ref Cb)) (r2 : PySem.W.typeIn K (.ref Cb) = some (.type "type")) (r3 : PySem.W.subIn K (.ref Cb) (.type "BaseException") = some true)
    (db : (Cn == ("__debug__" : Str)) = false) (c0 : fld ≠ "given") (bk : ∀ (s : Shared) (a u : Value), K.In s.heap → BindsTo s fd ⟨[a], [(fld, u)]⟩ ([x, qv].zip [a, u])) : ClsOk K mg Cn fld Ca where
  T := ⟨⟨_, _, _, _, _, _, _, _, _, _, _, _, _, _, _, c2, c3⟩, c4, c5, c6, c7⟩
  mgc := c1
  no := c8
  ini := fun _ => ⟨fI, fd, _, _, x, qv, st, c9, c10, F, hsc, hin, bd, bk⟩
  ini0 := fun e => absurd e c0
  db := db
  xf := ⟨c14, c15, c5, c16⟩
  ex := ⟨c14, c15, c5, c16, c17, c18, c19, c20⟩
  em := by
    unfold PySem.W.exmOne
    rw [c5]
    exact (if_pos (by decide)).trans (kitCls_ref c5 c6 sS)
  ve := kitOne_of (fun z => nomatch z) (by
    unfold PySem.W.kitCls
    exact (if_pos (by decide +kernel)).trans sV)
  re := ⟨Cb, r1, by
    by_cases e : Ca = Cb
    · subst e
      unfold PySem.W.kitOne
      rw [if_pos (by simp)]
    · exact kitOne_of (fun z => e (by cases z; rfl)) (kitCls_ref r3 r2 sB)⟩
theorem cls_mk0 {mg : Str → Option Value} {Cn fld x qual nm qn : Str} {Ca fI Cb N : Addr} {st : Stmt} {fd : FuncData} {bs bm : List Value} {sn sub ab col dd k0 k1 k2 k3 k5} (c1 : mg Cn = some (.ref Ca))
    (c2 : K.lookup Ca = some (excClassObj nm qn Ca N bs bm true sn sub ab col dd k0 k1 k2 k3 k5 "ValueError.__new__")) (c3 : PySem.HandSPX.refsVE bm = true) (c4 : PySem.W.findIn K (.ref Ca) "__setattr__" = some (some (.builtin "object.__setattr__")))
    (c5 : PySem.W.subIn K (.ref Ca) (.type "BaseException") = some true) (c6 : PySem.W.typeIn K (.ref Ca) = some (.type "type")) (c7 : PySem.W.keepIn K (.ref Ca) = true) (c8 : PySem.W.findIn K (.ref Ca) fld = some none)
    (c9 : PySem.W.findIn K (.ref Ca) "__init__" = some (some (.ref fI))) (c10 : PySem.W.typeIn K (.ref fI) = some (.type "function")) (F : L2.Fun K "__init__" qual st fI fd) (bd : Binds K fd [x] []) (hsc : C8.scC [x] [x] (defScope st) = true) (hin : Pk.isInit0 x fld (defBody st) = true)
    (c14 : PySem.W.findIn K (.ref Ca) "__getattribute__" = some (some (.builtin "BaseException.__getattribute__"))) (c15 : PySem.W.findIn K (.ref Ca) "__getattr__" = some none) (c16 : PySem.W.hasDictIn K Ca = true)
    (c17 : PySem.W.findIn K (.ref Ca) "__class__" = some (some (.builtin "object.__class__"))) (c18 : PySem.W.specialIn K (.builtin "object.__class__") "__get__" = some (some (.builtin "getset_descriptor.__get__"))) (c19 : PySem.W.takesIn K (.builtin "object.__class__") = some true) (c20 : PySem.W.mroIn K Ca (.type "object") = some true)
    (sV : PySem.W.subIn K (.ref Ca) (.type "ValueError") = some true) (sS : PySem.W.subIn K (.ref Ca) (.ref Ca) = some true) (sB : PySem.W.subIn K (.ref Ca) (.ref Cb) = some true) (r1 : mg "RuleError" = some (.ref Cb)) (r2 : PySem.W.typeIn K (.ref Cb) = some (.type "type")) (r3 : PySem.W.subIn K (.ref Cb) (.type "BaseException") = some true)
    (db : (Cn == ("__debug__" : Str)) = false) (c0 : fld = "given") : ClsOk K mg Cn fld Ca where
  T := ⟨⟨_, _, _, _, _, _, _, _, _, _, _, _, _, _, _, c2, c3⟩, c4, c5, c6, c7⟩
  mgc := c1
  no := c8
  ini := fun e => absurd c0 e
  ini0 := fun _ => ⟨fI, fd, _, _, x, st, c9, c10, F, hsc, hin, bd⟩
  db := db
  xf := ⟨c14, c15, c5, c16⟩
  ex := ⟨c14, c15, c5, c16, c17, c18, c19, c20⟩
  em := by
    unfold PySem.W.exmOne
    rw [c5]
    exact (if_pos (by decide)).trans (kitCls_ref c5 c6 sS)
  ve := kitOne_of (fun z => nomatch z) (by
    unfold PySem.W.kitCls
    exact (if_pos (by decide +kernel)).trans sV)
  re := ⟨Cb, r1, by
    by_cases e : Ca = Cb
    · subst e
      unfold PySem.W.kitOne
      rw [if_pos (by simp)]
    · exact kitOne_of (fun z => e (by cases z; rfl)) (kitCls_ref r3 r2 sB)⟩
end
end Pi

end
section
set_option Elab.async false
set_option linter.all false
set_option maxRecDepth 100000
set_option maxHeartbeats 40000000
namespace Law
open PySem PySem.Spec PyProof.Rows L2 Pi
def cp (i : Nat) : Stmt := match PySem.Challenge.pw_splitrules_k00_errors.main.body.getD i (.Pass ⟨0, 0, 0, 0⟩) with | .ClassDef _ _ _ b _ _ _ _ _ _ _ => b.getD 0 (.Pass ⟨0, 0, 0, 0⟩) | s => s
def tp (i : Nat) : Stmt := PySem.Challenge.pw_splitrules_k00_errors.main.body.getD i (.Pass ⟨0, 0, 0, 0⟩)
def exs : List (Str × Str) := [("BadText", "piece"), ("BadLine", "number"), ("NoStanding", "name"), ("NoLine", "line"), ("NoStand", "stand"), ("NoWay", "place"), ("NoSplit", "given"), ("NoNumber", "number"), ("BadAnswer", "answer"), ("NothingDone", "given"), ("Known", "name"), ("NoMachine", "name")]
def b0 : Ss := (.cons (.asg (.n 2) (.ite (.cmp .lt (.v 1) (.f1 .len (.v 0))) (.ix (.v 0) (.v 1)) (.int 0))) (.cons (.rbox (.cons (.bin .mul (.f1 .abs (.v 2)) (.f1 .int (.cmp .ge (.f1 .abs (.v 2)) (.bin .pow (.int 10) (.int 18))))) (.cons (.bin .add (.bin .add (.bin .mod (.f1 .int (.v 2)) (.int 2305843009213693951)) (.bin .mul (.int 39373) (.v 1))) (.int 93300)) (.cons (.int 0) .nil)))) .nil))
def f0 : Fn := ⟨2, 3, b0⟩
def e0 : Ent := ⟨"_law_box", ["_law_script", "_law_k"], ["_law_script", "_law_k", "_law_cell"], tp 15⟩
def b1 : Ss := (.cons (.ite (.cmp .gt (.bx 0 (.int 0)) (.int 0)) (.cons (.asg (.n 5) (.bin .mod (.f1 .int (.bx 0 (.int 0))) (.v 1))) (.cons (.stix 0 (.int 0) (.bin .fdiv (.bx 0 (.int 0)) (.v 1))) (.cons (.ret (.v 5)) .nil))) .nil) (.cons (.stix 0 (.int 2) (.bin .add (.bx 0 (.int 2)) (.int 1))) (.cons (.asg (.n 2) (.bin .mod (.f1 .int (.bin .mul (.bin .add (.bx 0 (.int 1)) (.bin .mul (.int 48271) (.bx 0 (.int 2)))) (.bin .add (.int 39373) (.bx 0 (.int 2))))) (.int 2147483647))) (.cons (.asg (.n 3) (.bin .add (.bin .mod (.f1 .int (.v 2)) (.int 40009)) (.int 7))) (.cons (.asg (.n 4) (.bin .mod (.f1 .int (.bin .mul (.bin .add (.bin .add (.v 2) (.bx 0 (.int 2))) (.bin .fdiv (.bx 0 (.int 1)) (.int 1000003))) (.v 3))) (.int 2147483629))) (.cons (.ret (.bin .mod (.f1 .int (.bin .fdiv (.bin .mod (.f1 .int (.bin .add (.bin .mul (.v 4) (.int 48271)) (.v 2))) (.int 2147483587)) (.int 64))) (.v 1))) .nil))))))
def f1 : Fn := ⟨2, 6, b1⟩
def e1 : Ent := ⟨"_law_take", ["_law_box_here", "_law_size_so"], ["_law_box_here", "_law_size_so", "_law_once", "_law_far", "_law_again", "_law_some"], tp 16⟩
def b2 : Ss := (.cons (.own 2 (.or (.f1 .list (.sl (.v 0) .no (.yes (.v 1)))) (.lst (.cons (.int 0) .nil)))) (.cons (.for' (.t (.cons (.n 3) (.cons (.n 4) .nil))) (.enm (.sl (.v 0) (.yes (.v 1)) (.yes (.int 63)))) (.cons (.asg (.n 5) (.bin .mod (.f1 .int (.v 3)) (.v 1))) (.cons (.stix 2 (.v 5) (.bin .add (.ix (.v 2) (.v 5)) (.bin .mul (.v 4) (.bin .add (.v 3) (.int 2))))) .nil))) (.cons (.reto 2) .nil)))
def f2 : Fn := ⟨2, 6, b2⟩
def e2 : Ent := ⟨"_law_cells", ["_law_script", "_law_top_so"], ["_law_script", "_law_top_so", "_law_cells_so", "_law_k", "_law_cell", "_law_at_so"], tp 17⟩
def b3 : Ss := (.cons (.ret (.ix (.v 1) (.call 1 (.cons (.v 0) (.cons (.f1 .len (.v 1)) .nil))))) .nil)
def f3 : Fn := ⟨2, 2, b3⟩
def e3 : Ent := ⟨"_law_of", ["_law_box_here", "_law_goods_so"], ["_law_box_here", "_law_goods_so"], tp 18⟩
def b4 : Ss := (.cons (.ite (.isi (.v 1) [.list, .tuple]) (.cons (.ite (.cmp .ne (.isi (.v 0) [.list]) (.isi (.v 1) [.list])) (.cons (.ret (.bl false)) .nil) .nil) (.cons (.ite (.cmp .ne (.isi (.v 0) [.tuple]) (.isi (.v 1) [.tuple])) (.cons (.ret (.bl false)) .nil) .nil) (.cons (.ret (.and (.cmp .eq (.f1 .len (.v 0)) (.f1 .len (.v 1))) (.f1 .all (.lc [2, 3] (.call 4 (.cons (.v 2) (.cons (.v 3) .nil))) (.t (.cons (.n 2) (.cons (.n 3) .nil))) (.zip (.v 0) (.v 1)) .no)))) .nil))) .nil) (.cons (.ite (.or (.isN (.v 1)) (.isi (.v 1) [.bool, .str])) (.cons (.ret (.and (.cmp .eq (.v 0) (.v 1)) (.and (.cmp .eq (.isi (.v 0) [.bool]) (.isi (.v 1) [.bool])) (.cmp .eq (.isN (.v 0)) (.isN (.v 1)))))) .nil) .nil) (.cons (.ret (.and (.isi (.v 0) [.int]) (.and (.not (.isi (.v 0) [.bool])) (.cmp .eq (.v 0) (.v 1))))) .nil)))
def f4 : Fn := ⟨2, 4, b4⟩
def e4 : Ent := ⟨"_law_same", ["_law_got", "_law_due"], ["_law_got", "_law_due", "_law_mine", "_law_its"], tp 19⟩
def b5 : Ss := (.cons (.asg (.n 1) (.lst (.cons (.xis true "BadText" exs (.v 0)) (.cons (.xis true "BadLine" exs (.v 0)) (.cons (.xis true "NoStanding" exs (.v 0)) .nil))))) (.cons (.asg (.n 1) (.bin .add (.v 1) (.lst (.cons (.xis true "NoLine" exs (.v 0)) (.cons (.xis true "NoStand" exs (.v 0)) .nil))))) (.cons (.asg (.n 1) (.bin .add (.v 1) (.lst (.cons (.xis true "NoWay" exs (.v 0)) .nil)))) (.cons (.asg (.n 1) (.bin .add (.v 1) (.lst (.cons (.xis true "NoSplit" exs (.v 0)) (.cons (.xis true "NoNumber" exs (.v 0)) .nil))))) (.cons (.asg (.n 1) (.bin .add (.v 1) (.lst (.cons (.xis true "BadAnswer" exs (.v 0)) (.cons (.xis true "NothingDone" exs (.v 0)) .nil))))) (.cons (.ret (.bin .add (.v 1) (.lst (.cons (.xis true "Known" exs (.v 0)) (.cons (.xis true "NoMachine" exs (.v 0)) .nil))))) .nil))))))
def f5 : Fn := ⟨1, 2, b5⟩
def e5 : Ent := ⟨"_law_sorts", ["_law_caught"], ["_law_caught", "_law_kinds_so"], tp 20⟩
def b6 : Ss := (.cons (.asg (.t (.cons (.n 5) (.cons (.n 6) .nil))) (.tup (.cons (.bin .sub (.call 1 (.cons (.v 0) (.cons (.bin .pow (.int 10) (.int 9)) .nil))) (.bin .mul (.int 5) (.bin .pow (.int 10) (.int 8)))) (.cons (.call 3 (.cons (.v 0) (.cons (.lst (.cons (.str "a") (.cons (.str "ants") (.cons (.str "abcdefgh") (.cons (.str "zz") .nil))))) .nil))) .nil)))) (.cons (.asg (.n 1) (.call 3 (.cons (.v 0) (.cons (.lst (.cons (.tup (.cons (.str "a") (.cons (.str "0") (.cons (.str "b") .nil)))) (.cons (.tup (.cons (.str "a") (.cons (.str "01") (.cons (.str "a") .nil)))) .nil))) .nil)))) (.cons (.asg (.n 2) (.lst (.cons (.exn "BadText" "piece" (.v 5)) (.cons (.exn "BadLine" "number" (.v 5)) (.cons (.exn "NoStanding" "name" (.v 6)) (.cons (.exn "NoLine" "line" (.v 1)) (.cons (.exn "NoStand" "stand" (.v 6)) (.cons (.exn "NoWay" "place" (.v 5)) .nil)))))))) (.cons (.asg (.n 2) (.bin .add (.v 2) (.lst (.cons (.exz "NoSplit" "given") (.cons (.exn "NoNumber" "number" (.v 5)) (.cons (.exn "BadAnswer" "answer" (.v 5)) .nil)))))) (.cons (.asg (.n 2) (.bin .add (.v 2) (.lst (.cons (.exz "NothingDone" "given") (.cons (.exn "Known" "name" (.v 6)) (.cons (.exn "NoMachine" "name" (.v 6)) .nil)))))) (.cons (.for' (.t (.cons (.n 7) (.cons (.n 8) .nil))) (.enm (.v 2)) (.cons (.ite (.not (.call 4 (.cons (.call 5 (.cons (.v 8) .nil)) (.cons (.lc [9] (.cmp .eq (.v 9) (.v 7)) (.n 9) (.rng1 (.int 12)) .no) .nil)))) (.cons (.ret (.bl false)) .nil) .nil) (.cons (.ite (.or (.not (.xis false "RuleError" exs (.v 8))) (.not (.xis false "ValueError" exs (.v 8)))) (.cons (.ret (.bl false)) .nil) .nil) .nil))) (.cons (.asg (.n 3) (.lst (.cons (.xfd "piece" exs (.ix (.v 2) (.int 0))) (.cons (.xfd "number" exs (.ix (.v 2) (.int 1))) (.cons (.xfd "name" exs (.ix (.v 2) (.int 2))) (.cons (.xfd "line" exs (.ix (.v 2) (.int 3))) (.cons (.xfd "stand" exs (.ix (.v 2) (.int 4))) .nil))))))) (.cons (.asg (.n 3) (.bin .add (.v 3) (.lst (.cons (.xfd "place" exs (.ix (.v 2) (.int 5))) (.cons (.xfd "number" exs (.ix (.v 2) (.int 7))) (.cons (.xfd "answer" exs (.ix (.v 2) (.int 8))) .nil)))))) (.cons (.asg (.n 3) (.bin .add (.v 3) (.lst (.cons (.xfd "name" exs (.ix (.v 2) (.int 10))) (.cons (.xfd "name" exs (.ix (.v 2) (.int 11))) .nil))))) (.cons (.asg (.n 4) (.lst (.cons (.v 5) (.cons (.v 5) (.cons (.v 6) (.cons (.v 1) (.cons (.v 6) (.cons (.v 5) (.cons (.v 5) (.cons (.v 5) (.cons (.v 6) (.cons (.v 6) .nil)))))))))))) (.cons (.asg (.n 3) (.bin .add (.v 3) (.lst (.cons (.xfd "piece" exs (.exk "BadText" "piece" (.int 7))) (.cons (.xfd "number" exs (.exk "BadLine" "number" (.neg (.int 1)))) .nil))))) (.cons (.asg (.n 3) (.bin .add (.v 3) (.lst (.cons (.xfd "name" exs (.exk "NoStanding" "name" (.str "b"))) (.cons (.xfd "line" exs (.exk "NoLine" "line" (.tup (.cons (.str "x") (.cons (.str "1") (.cons (.str "x") .nil)))))) .nil))))) (.cons (.asg (.n 4) (.bin .add (.v 4) (.lst (.cons (.int 7) (.cons (.neg (.int 1)) (.cons (.str "b") (.cons (.tup (.cons (.str "x") (.cons (.str "1") (.cons (.str "x") .nil)))) .nil))))))) (.cons (.asg (.n 3) (.bin .add (.v 3) (.lst (.cons (.xfd "stand" exs (.exk "NoStand" "stand" (.v 6))) (.cons (.xfd "place" exs (.exk "NoWay" "place" (.int 0))) (.cons (.xfd "number" exs (.exk "NoNumber" "number" (.bin .pow (.int 10) (.int 30)))) .nil)))))) (.cons (.asg (.n 4) (.bin .add (.v 4) (.lst (.cons (.v 6) (.cons (.int 0) (.cons (.bin .pow (.int 10) (.int 30)) .nil)))))) (.cons (.asg (.n 3) (.bin .add (.v 3) (.lst (.cons (.xfd "answer" exs (.exk "BadAnswer" "answer" (.tup (.cons (.int 1) (.cons (.int 2) .nil))))) (.cons (.xfd "name" exs (.exk "Known" "name" (.v 6))) (.cons (.xfd "name" exs (.exk "NoMachine" "name" (.v 6))) .nil)))))) (.cons (.ret (.call 4 (.cons (.v 3) (.cons (.bin .add (.v 4) (.lst (.cons (.tup (.cons (.int 1) (.cons (.int 2) .nil))) (.cons (.v 6) (.cons (.v 6) .nil))))) .nil)))) .nil)))))))))))))))))
def f6 : Fn := ⟨1, 10, b6⟩
def e6 : Ent := ⟨"_law_right", ["_law_box_here"], ["_law_box_here", "_law_line_so", "_law_every_so", "_law_got", "_law_due", "_law_far", "_law_tag", "_law_k", "_law_own", "_law_j"], tp 21⟩
def b7 : Ss := (.cons (.asg (.n 1) (.call 2 (.cons (.v 0) (.cons (.int 3) .nil)))) (.cons (.ret (.f1 .all (.lc [2] (.call 6 (.cons (.call 0 (.cons (.v 1) (.cons (.v 2) .nil))) .nil)) (.n 2) (.rng1 (.f1 .len (.v 1))) .no))) .nil))
def f7 : Fn := ⟨1, 3, b7⟩
def e7 : Ent := ⟨"law", ["_law_script"], ["_law_script", "_law_cells_here", "_law_k"], tp 22⟩
def gls : List D := []
def gld (i : Nat) : Option D := gls[i]?
def fns : List Fn := [f0, f1, f2, f3, f4, f5, f6, f7]
def ents : List Ent := [e0, e1, e2, e3, e4, e5, e6, e7]
def tb : Tbl := ⟨[], [("_law_box", 2), ("_law_take", 2), ("_law_cells", 2), ("_law_of", 2), ("_law_same", 2), ("_law_sorts", 1), ("_law_right", 1), ("law", 1)], [], ["ValueError", "abs", "all", "bool", "enumerate", "int", "isinstance", "len", "list", "range", "str", "tuple", "zip"], [("BadText", "piece"), ("BadLine", "number"), ("NoStanding", "name"), ("NoLine", "line"), ("NoStand", "stand"), ("NoWay", "place"), ("NoSplit", "given"), ("NoNumber", "number"), ("BadAnswer", "answer"), ("NothingDone", "given"), ("Known", "name"), ("NoMachine", "name")], []⟩
theorem c0 : chkF tb e0 f0 = true := by decide +kernel
theorem c1 : chkF tb e1 f1 = true := by decide +kernel
theorem c2 : chkF tb e2 f2 = true := by decide +kernel
theorem c3 : chkF tb e3 f3 = true := by decide +kernel
theorem c4 : chkF tb e4 f4 = true := by decide +kernel
theorem c5 : chkF tb e5 f5 = true := by decide +kernel
theorem c6 : chkF tb e6 f6 = true := by decide +kernel
theorem c7 : chkF tb e7 f7 = true := by decide +kernel
theorem chk_all : ∀ (i : Nat) (e : Ent), ents[i]? = some e → ∃ F, fns[i]? = some F ∧ chkF tb e F = true
  | 0, _, h => by cases h; exact ⟨_, rfl, c0⟩
  | 1, _, h => by cases h; exact ⟨_, rfl, c1⟩
  | 2, _, h => by cases h; exact ⟨_, rfl, c2⟩
  | 3, _, h => by cases h; exact ⟨_, rfl, c3⟩
  | 4, _, h => by cases h; exact ⟨_, rfl, c4⟩
  | 5, _, h => by cases h; exact ⟨_, rfl, c5⟩
  | 6, _, h => by cases h; exact ⟨_, rfl, c6⟩
  | 7, _, h => by cases h; exact ⟨_, rfl, c7⟩
  | _ + 8, _, h => by cases h
abbrev Right : Prop := ∀ ns : List Int, ns.length ≤ 63 → ∃ st, run gld fns 100000 100 7 [.d (.list (ns.map .int))] [] = some (.d (.bool true), st)
theorem kw0 {K : PySem.W.Frag} {kV dc pm cd ct : Value} {an : Option Addr} (m : Nat) (ks : List Str) (pp : List Nat) (hm : (0, m, ks, pp) ∈ tb.kw) : KwOk K (PySem.W.fnOf "_law_box" "_law_box" (defArgs (tp 15)) (defBody (tp 15)) (defScope (tp 15)) .none kV dc pm an cd ct) ["_law_script", "_law_k"] m ks pp := by
  cases hm
theorem kw1 {K : PySem.W.Frag} {kV dc pm cd ct : Value} {an : Option Addr} (m : Nat) (ks : List Str) (pp : List Nat) (hm : (1, m, ks, pp) ∈ tb.kw) : KwOk K (PySem.W.fnOf "_law_take" "_law_take" (defArgs (tp 16)) (defBody (tp 16)) (defScope (tp 16)) .none kV dc pm an cd ct) ["_law_box_here", "_law_size_so"] m ks pp := by
  cases hm
theorem kw2 {K : PySem.W.Frag} {kV dc pm cd ct : Value} {an : Option Addr} (m : Nat) (ks : List Str) (pp : List Nat) (hm : (2, m, ks, pp) ∈ tb.kw) : KwOk K (PySem.W.fnOf "_law_cells" "_law_cells" (defArgs (tp 17)) (defBody (tp 17)) (defScope (tp 17)) .none kV dc pm an cd ct) ["_law_script", "_law_top_so"] m ks pp := by
  cases hm
theorem kw3 {K : PySem.W.Frag} {kV dc pm cd ct : Value} {an : Option Addr} (m : Nat) (ks : List Str) (pp : List Nat) (hm : (3, m, ks, pp) ∈ tb.kw) : KwOk K (PySem.W.fnOf "_law_of" "_law_of" (defArgs (tp 18)) (defBody (tp 18)) (defScope (tp 18)) .none kV dc pm an cd ct) ["_law_box_here", "_law_goods_so"] m ks pp := by
  cases hm
theorem kw4 {K : PySem.W.Frag} {kV dc pm cd ct : Value} {an : Option Addr} (m : Nat) (ks : List Str) (pp : List Nat) (hm : (4, m, ks, pp) ∈ tb.kw) : KwOk K (PySem.W.fnOf "_law_same" "_law_same" (defArgs (tp 19)) (defBody (tp 19)) (defScope (tp 19)) .none kV dc pm an cd ct) ["_law_got", "_law_due"] m ks pp := by
  cases hm
theorem kw5 {K : PySem.W.Frag} {kV dc pm cd ct : Value} {an : Option Addr} (m : Nat) (ks : List Str) (pp : List Nat) (hm : (5, m, ks, pp) ∈ tb.kw) : KwOk K (PySem.W.fnOf "_law_sorts" "_law_sorts" (defArgs (tp 20)) (defBody (tp 20)) (defScope (tp 20)) .none kV dc pm an cd ct) ["_law_caught"] m ks pp := by
  cases hm
theorem kw6 {K : PySem.W.Frag} {kV dc pm cd ct : Value} {an : Option Addr} (m : Nat) (ks : List Str) (pp : List Nat) (hm : (6, m, ks, pp) ∈ tb.kw) : KwOk K (PySem.W.fnOf "_law_right" "_law_right" (defArgs (tp 21)) (defBody (tp 21)) (defScope (tp 21)) .none kV dc pm an cd ct) ["_law_box_here"] m ks pp := by
  cases hm
theorem kw7 {K : PySem.W.Frag} {kV dc pm cd ct : Value} {an : Option Addr} (m : Nat) (ks : List Str) (pp : List Nat) (hm : (7, m, ks, pp) ∈ tb.kw) : KwOk K (PySem.W.fnOf "law" "law" (defArgs (tp 22)) (defBody (tp 22)) (defScope (tp 22)) .none kV dc pm an cd ct) ["_law_script"] m ks pp := by
  cases hm
theorem all_mk (right : Right) {l : PySem.W.OpenLaw} {w : World} {K : PySem.W.Frag} {h : Heap} {mg : Str → Option Value} {fa g0 g1 g2 g3 g4 g5 g6 g7 : Addr} (X : K.In h) (G : h.Ns mainGlobals mg) (hfa : mg "law" = some (.ref fa))
 {od0 an0 od1 an1 od2 an2 od3 an3 od4 an4 od5 an5 od6 an6 od7 an7 : Option Addr} {sl0 sl1 sl2 sl3 sl4 sl5 sl6 sl7 : Array (Option Value)} {oc0 kV0 dc0 pm0 cd0 ct0 oc1 kV1 dc1 pm1 cd1 ct1 oc2 kV2 dc2 pm2 cd2 ct2 oc3 kV3 dc3 pm3 cd3 ct3 oc4 kV4 dc4 pm4 cd4 ct4 oc5 kV5 dc5 pm5 cd5 ct5 oc6 kV6 dc6 pm6 cd6 ct6 oc7 kV7 dc7 pm7 cd7 ct7 : Value}
  (a0 : PySem.W.nsIn K mainGlobals "_law_box" = some (some (.ref g0))) (l0 : K.lookup g0 = some ⟨oc0, od0, .func (PySem.W.fnOf "_law_box" "_law_box" (defArgs (tp 15)) (defBody (tp 15)) (defScope (tp 15)) .none kV0 dc0 pm0 an0 cd0 ct0), sl0⟩) (d0 : PySem.W.codeIn K cd0 "_law_box" = true) (k0 : PySem.W.keepIn K (.ref g0) = true)
  (a1 : PySem.W.nsIn K mainGlobals "_law_take" = some (some (.ref g1))) (l1 : K.lookup g1 = some ⟨oc1, od1, .func (PySem.W.fnOf "_law_take" "_law_take" (defArgs (tp 16)) (defBody (tp 16)) (defScope (tp 16)) .none kV1 dc1 pm1 an1 cd1 ct1), sl1⟩) (d1 : PySem.W.codeIn K cd1 "_law_take" = true) (k1 : PySem.W.keepIn K (.ref g1) = true)
  (a2 : PySem.W.nsIn K mainGlobals "_law_cells" = some (some (.ref g2))) (l2 : K.lookup g2 = some ⟨oc2, od2, .func (PySem.W.fnOf "_law_cells" "_law_cells" (defArgs (tp 17)) (defBody (tp 17)) (defScope (tp 17)) .none kV2 dc2 pm2 an2 cd2 ct2), sl2⟩) (d2 : PySem.W.codeIn K cd2 "_law_cells" = true) (k2 : PySem.W.keepIn K (.ref g2) = true)
  (a3 : PySem.W.nsIn K mainGlobals "_law_of" = some (some (.ref g3))) (l3 : K.lookup g3 = some ⟨oc3, od3, .func (PySem.W.fnOf "_law_of" "_law_of" (defArgs (tp 18)) (defBody (tp 18)) (defScope (tp 18)) .none kV3 dc3 pm3 an3 cd3 ct3), sl3⟩) (d3 : PySem.W.codeIn K cd3 "_law_of" = true) (k3 : PySem.W.keepIn K (.ref g3) = true)
  (a4 : PySem.W.nsIn K mainGlobals "_law_same" = some (some (.ref g4))) (l4 : K.lookup g4 = some ⟨oc4, od4, .func (PySem.W.fnOf "_law_same" "_law_same" (defArgs (tp 19)) (defBody (tp 19)) (defScope (tp 19)) .none kV4 dc4 pm4 an4 cd4 ct4), sl4⟩) (d4 : PySem.W.codeIn K cd4 "_law_same" = true) (k4 : PySem.W.keepIn K (.ref g4) = true)
  (a5 : PySem.W.nsIn K mainGlobals "_law_sorts" = some (some (.ref g5))) (l5 : K.lookup g5 = some ⟨oc5, od5, .func (PySem.W.fnOf "_law_sorts" "_law_sorts" (defArgs (tp 20)) (defBody (tp 20)) (defScope (tp 20)) .none kV5 dc5 pm5 an5 cd5 ct5), sl5⟩) (d5 : PySem.W.codeIn K cd5 "_law_sorts" = true) (k5 : PySem.W.keepIn K (.ref g5) = true)
  (a6 : PySem.W.nsIn K mainGlobals "_law_right" = some (some (.ref g6))) (l6 : K.lookup g6 = some ⟨oc6, od6, .func (PySem.W.fnOf "_law_right" "_law_right" (defArgs (tp 21)) (defBody (tp 21)) (defScope (tp 21)) .none kV6 dc6 pm6 an6 cd6 ct6), sl6⟩) (d6 : PySem.W.codeIn K cd6 "_law_right" = true) (k6 : PySem.W.keepIn K (.ref g6) = true)
  (a7 : PySem.W.nsIn K mainGlobals "law" = some (some (.ref g7))) (l7 : K.lookup g7 = some ⟨oc7, od7, .func (PySem.W.fnOf "law" "law" (defArgs (tp 22)) (defBody (tp 22)) (defScope (tp 22)) .none kV7 dc7 pm7 an7 cd7 ct7), sl7⟩) (d7 : PySem.W.codeIn K cd7 "law" = true) (k7 : PySem.W.keepIn K (.ref g7) = true)
  (z0 : PySem.W.nsIn K mainGlobals "ValueError" = some none)
  (z1 : PySem.W.nsIn K mainGlobals "abs" = some none)
  (z2 : PySem.W.nsIn K mainGlobals "all" = some none)
  (z3 : PySem.W.nsIn K mainGlobals "bool" = some none)
  (z4 : PySem.W.nsIn K mainGlobals "enumerate" = some none)
  (z5 : PySem.W.nsIn K mainGlobals "int" = some none)
  (z6 : PySem.W.nsIn K mainGlobals "isinstance" = some none)
  (z7 : PySem.W.nsIn K mainGlobals "len" = some none)
  (z8 : PySem.W.nsIn K mainGlobals "list" = some none)
  (z9 : PySem.W.nsIn K mainGlobals "range" = some none)
  (z10 : PySem.W.nsIn K mainGlobals "str" = some none)
  (z11 : PySem.W.nsIn K mainGlobals "tuple" = some none)
  (z12 : PySem.W.nsIn K mainGlobals "zip" = some none)
  {xCb : Addr} (re1 : PySem.W.nsIn K mainGlobals "RuleError" = some (some (.ref xCb))) (re2 : PySem.W.typeIn K (.ref xCb) = some (.type "type")) (re3 : PySem.W.subIn K (.ref xCb) (.type "BaseException") = some true)
  {xC0 : Addr}
  {xC1 : Addr}
  {xC2 : Addr}
  {xC3 : Addr}
  {xC4 : Addr}
  {xC5 : Addr}
  {xC6 : Addr}
  {xC7 : Addr}
  {xC8 : Addr}
  {xC9 : Addr}
  {xC10 : Addr}
  {xC11 : Addr}
  {xI0 xN0 : Addr} {xod0 xan0 : Option Addr} {xsl0 : Array (Option Value)} {xoc0 xkV0 xdc0 xpm0 xcd0 xct0 : Value} {xnm0 xqn0 : Str} {xbs0 xbm0 : List Value} {xsn0 xsub0 xab0 xcol0 xdd0 xk00 xk10 xk20 xk30 xk50 : _}
  (x0_1 : PySem.W.nsIn K mainGlobals "BadText" = some (some (.ref xC0)))
  (x0_2 : K.lookup xC0 = some (excClassObj xnm0 xqn0 xC0 xN0 xbs0 xbm0 true xsn0 xsub0 xab0 xcol0 xdd0 xk00 xk10 xk20 xk30 xk50 "ValueError.__new__"))
  (x0_3 : PySem.HandSPX.refsVE xbm0 = true)
  (x0_4 : PySem.W.findIn K (.ref xC0) "__setattr__" = some (some (.builtin "object.__setattr__")))
  (x0_5 : PySem.W.subIn K (.ref xC0) (.type "BaseException") = some true)
  (x0_6 : PySem.W.typeIn K (.ref xC0) = some (.type "type"))
  (x0_7 : PySem.W.keepIn K (.ref xC0) = true)
  (x0_8 : PySem.W.findIn K (.ref xC0) "piece" = some none)
  (x0_9 : PySem.W.findIn K (.ref xC0) "__init__" = some (some (.ref xI0)))
  (x0_10 : PySem.W.typeIn K (.ref xI0) = some (.type "function"))
  (x0l : K.lookup xI0 = some ⟨xoc0, xod0, .func (PySem.W.fnOf "__init__" "BadText.__init__" (defArgs (cp 2)) (defBody (cp 2)) (defScope (cp 2)) .none xkV0 xdc0 xpm0 xan0 xcd0 xct0), xsl0⟩)
  (x0d : PySem.W.codeIn K xcd0 "BadText.__init__" = true)
  (x0k : PySem.W.keepIn K (.ref xI0) = true)
  (x0_14 : PySem.W.findIn K (.ref xC0) "__getattribute__" = some (some (.builtin "BaseException.__getattribute__")))
  (x0_15 : PySem.W.findIn K (.ref xC0) "__getattr__" = some none)
  (x0_16 : PySem.W.hasDictIn K xC0 = true)
  (x0_17 : PySem.W.findIn K (.ref xC0) "__class__" = some (some (.builtin "object.__class__")))
  (x0_18 : PySem.W.specialIn K (.builtin "object.__class__") "__get__" = some (some (.builtin "getset_descriptor.__get__")))
  (x0_19 : PySem.W.takesIn K (.builtin "object.__class__") = some true)
  (x0_20 : PySem.W.mroIn K xC0 (.type "object") = some true)
  (x0_V : PySem.W.subIn K (.ref xC0) (.type "ValueError") = some true)
  (x0_S : PySem.W.subIn K (.ref xC0) (.ref xC0) = some true)
  (x0_B : PySem.W.subIn K (.ref xC0) (.ref xCb) = some true)
  (x0_n1 : PySem.W.subIn K (.ref xC0) (.ref xC1) = some false)
  (x0_n2 : PySem.W.subIn K (.ref xC0) (.ref xC2) = some false)
  (x0_n3 : PySem.W.subIn K (.ref xC0) (.ref xC3) = some false)
  (x0_n4 : PySem.W.subIn K (.ref xC0) (.ref xC4) = some false)
  (x0_n5 : PySem.W.subIn K (.ref xC0) (.ref xC5) = some false)
  (x0_n6 : PySem.W.subIn K (.ref xC0) (.ref xC6) = some false)
  (x0_n7 : PySem.W.subIn K (.ref xC0) (.ref xC7) = some false)
  (x0_n8 : PySem.W.subIn K (.ref xC0) (.ref xC8) = some false)
  (x0_n9 : PySem.W.subIn K (.ref xC0) (.ref xC9) = some false)
  (x0_n10 : PySem.W.subIn K (.ref xC0) (.ref xC10) = some false)
  (x0_n11 : PySem.W.subIn K (.ref xC0) (.ref xC11) = some false)
  {xI1 xN1 : Addr} {xod1 xan1 : Option Addr} {xsl1 : Array (Option Value)} {xoc1 xkV1 xdc1 xpm1 xcd1 xct1 : Value} {xnm1 xqn1 : Str} {xbs1 xbm1 : List Value} {xsn1 xsub1 xab1 xcol1 xdd1 xk01 xk11 xk21 xk31 xk51 : _}
  (x1_1 : PySem.W.nsIn K mainGlobals "BadLine" = some (some (.ref xC1)))
  (x1_2 : K.lookup xC1 = some (excClassObj xnm1 xqn1 xC1 xN1 xbs1 xbm1 true xsn1 xsub1 xab1 xcol1 xdd1 xk01 xk11 xk21 xk31 xk51 "ValueError.__new__"))
  (x1_3 : PySem.HandSPX.refsVE xbm1 = true)
  (x1_4 : PySem.W.findIn K (.ref xC1) "__setattr__" = some (some (.builtin "object.__setattr__")))
  (x1_5 : PySem.W.subIn K (.ref xC1) (.type "BaseException") = some true)
  (x1_6 : PySem.W.typeIn K (.ref xC1) = some (.type "type"))
  (x1_7 : PySem.W.keepIn K (.ref xC1) = true)
  (x1_8 : PySem.W.findIn K (.ref xC1) "number" = some none)
  (x1_9 : PySem.W.findIn K (.ref xC1) "__init__" = some (some (.ref xI1)))
  (x1_10 : PySem.W.typeIn K (.ref xI1) = some (.type "function"))
  (x1l : K.lookup xI1 = some ⟨xoc1, xod1, .func (PySem.W.fnOf "__init__" "BadLine.__init__" (defArgs (cp 3)) (defBody (cp 3)) (defScope (cp 3)) .none xkV1 xdc1 xpm1 xan1 xcd1 xct1), xsl1⟩)
  (x1d : PySem.W.codeIn K xcd1 "BadLine.__init__" = true)
  (x1k : PySem.W.keepIn K (.ref xI1) = true)
  (x1_14 : PySem.W.findIn K (.ref xC1) "__getattribute__" = some (some (.builtin "BaseException.__getattribute__")))
  (x1_15 : PySem.W.findIn K (.ref xC1) "__getattr__" = some none)
  (x1_16 : PySem.W.hasDictIn K xC1 = true)
  (x1_17 : PySem.W.findIn K (.ref xC1) "__class__" = some (some (.builtin "object.__class__")))
  (x1_18 : PySem.W.specialIn K (.builtin "object.__class__") "__get__" = some (some (.builtin "getset_descriptor.__get__")))
  (x1_19 : PySem.W.takesIn K (.builtin "object.__class__") = some true)
  (x1_20 : PySem.W.mroIn K xC1 (.type "object") = some true)
  (x1_V : PySem.W.subIn K (.ref xC1) (.type "ValueError") = some true)
  (x1_S : PySem.W.subIn K (.ref xC1) (.ref xC1) = some true)
  (x1_B : PySem.W.subIn K (.ref xC1) (.ref xCb) = some true)
  (x1_n0 : PySem.W.subIn K (.ref xC1) (.ref xC0) = some false)
  (x1_n2 : PySem.W.subIn K (.ref xC1) (.ref xC2) = some false)
  (x1_n3 : PySem.W.subIn K (.ref xC1) (.ref xC3) = some false)
  (x1_n4 : PySem.W.subIn K (.ref xC1) (.ref xC4) = some false)
  (x1_n5 : PySem.W.subIn K (.ref xC1) (.ref xC5) = some false)
  (x1_n6 : PySem.W.subIn K (.ref xC1) (.ref xC6) = some false)
  (x1_n7 : PySem.W.subIn K (.ref xC1) (.ref xC7) = some false)
  (x1_n8 : PySem.W.subIn K (.ref xC1) (.ref xC8) = some false)
  (x1_n9 : PySem.W.subIn K (.ref xC1) (.ref xC9) = some false)
  (x1_n10 : PySem.W.subIn K (.ref xC1) (.ref xC10) = some false)
  (x1_n11 : PySem.W.subIn K (.ref xC1) (.ref xC11) = some false)
  {xI2 xN2 : Addr} {xod2 xan2 : Option Addr} {xsl2 : Array (Option Value)} {xoc2 xkV2 xdc2 xpm2 xcd2 xct2 : Value} {xnm2 xqn2 : Str} {xbs2 xbm2 : List Value} {xsn2 xsub2 xab2 xcol2 xdd2 xk02 xk12 xk22 xk32 xk52 : _}
  (x2_1 : PySem.W.nsIn K mainGlobals "NoStanding" = some (some (.ref xC2)))
  (x2_2 : K.lookup xC2 = some (excClassObj xnm2 xqn2 xC2 xN2 xbs2 xbm2 true xsn2 xsub2 xab2 xcol2 xdd2 xk02 xk12 xk22 xk32 xk52 "ValueError.__new__"))
  (x2_3 : PySem.HandSPX.refsVE xbm2 = true)
  (x2_4 : PySem.W.findIn K (.ref xC2) "__setattr__" = some (some (.builtin "object.__setattr__")))
  (x2_5 : PySem.W.subIn K (.ref xC2) (.type "BaseException") = some true)
  (x2_6 : PySem.W.typeIn K (.ref xC2) = some (.type "type"))
  (x2_7 : PySem.W.keepIn K (.ref xC2) = true)
  (x2_8 : PySem.W.findIn K (.ref xC2) "name" = some none)
  (x2_9 : PySem.W.findIn K (.ref xC2) "__init__" = some (some (.ref xI2)))
  (x2_10 : PySem.W.typeIn K (.ref xI2) = some (.type "function"))
  (x2l : K.lookup xI2 = some ⟨xoc2, xod2, .func (PySem.W.fnOf "__init__" "NoStanding.__init__" (defArgs (cp 4)) (defBody (cp 4)) (defScope (cp 4)) .none xkV2 xdc2 xpm2 xan2 xcd2 xct2), xsl2⟩)
  (x2d : PySem.W.codeIn K xcd2 "NoStanding.__init__" = true)
  (x2k : PySem.W.keepIn K (.ref xI2) = true)
  (x2_14 : PySem.W.findIn K (.ref xC2) "__getattribute__" = some (some (.builtin "BaseException.__getattribute__")))
  (x2_15 : PySem.W.findIn K (.ref xC2) "__getattr__" = some none)
  (x2_16 : PySem.W.hasDictIn K xC2 = true)
  (x2_17 : PySem.W.findIn K (.ref xC2) "__class__" = some (some (.builtin "object.__class__")))
  (x2_18 : PySem.W.specialIn K (.builtin "object.__class__") "__get__" = some (some (.builtin "getset_descriptor.__get__")))
  (x2_19 : PySem.W.takesIn K (.builtin "object.__class__") = some true)
  (x2_20 : PySem.W.mroIn K xC2 (.type "object") = some true)
  (x2_V : PySem.W.subIn K (.ref xC2) (.type "ValueError") = some true)
  (x2_S : PySem.W.subIn K (.ref xC2) (.ref xC2) = some true)
  (x2_B : PySem.W.subIn K (.ref xC2) (.ref xCb) = some true)
  (x2_n0 : PySem.W.subIn K (.ref xC2) (.ref xC0) = some false)
  (x2_n1 : PySem.W.subIn K (.ref xC2) (.ref xC1) = some false)
  (x2_n3 : PySem.W.subIn K (.ref xC2) (.ref xC3) = some false)
  (x2_n4 : PySem.W.subIn K (.ref xC2) (.ref xC4) = some false)
  (x2_n5 : PySem.W.subIn K (.ref xC2) (.ref xC5) = some false)
  (x2_n6 : PySem.W.subIn K (.ref xC2) (.ref xC6) = some false)
  (x2_n7 : PySem.W.subIn K (.ref xC2) (.ref xC7) = some false)
  (x2_n8 : PySem.W.subIn K (.ref xC2) (.ref xC8) = some false)
  (x2_n9 : PySem.W.subIn K (.ref xC2) (.ref xC9) = some false)
  (x2_n10 : PySem.W.subIn K (.ref xC2) (.ref xC10) = some false)
  (x2_n11 : PySem.W.subIn K (.ref xC2) (.ref xC11) = some false)
  {xI3 xN3 : Addr} {xod3 xan3 : Option Addr} {xsl3 : Array (Option Value)} {xoc3 xkV3 xdc3 xpm3 xcd3 xct3 : Value} {xnm3 xqn3 : Str} {xbs3 xbm3 : List Value} {xsn3 xsub3 xab3 xcol3 xdd3 xk03 xk13 xk23 xk33 xk53 : _}
  (x3_1 : PySem.W.nsIn K mainGlobals "NoLine" = some (some (.ref xC3)))
  (x3_2 : K.lookup xC3 = some (excClassObj xnm3 xqn3 xC3 xN3 xbs3 xbm3 true xsn3 xsub3 xab3 xcol3 xdd3 xk03 xk13 xk23 xk33 xk53 "ValueError.__new__"))
  (x3_3 : PySem.HandSPX.refsVE xbm3 = true)
  (x3_4 : PySem.W.findIn K (.ref xC3) "__setattr__" = some (some (.builtin "object.__setattr__")))
  (x3_5 : PySem.W.subIn K (.ref xC3) (.type "BaseException") = some true)
  (x3_6 : PySem.W.typeIn K (.ref xC3) = some (.type "type"))
  (x3_7 : PySem.W.keepIn K (.ref xC3) = true)
  (x3_8 : PySem.W.findIn K (.ref xC3) "line" = some none)
  (x3_9 : PySem.W.findIn K (.ref xC3) "__init__" = some (some (.ref xI3)))
  (x3_10 : PySem.W.typeIn K (.ref xI3) = some (.type "function"))
  (x3l : K.lookup xI3 = some ⟨xoc3, xod3, .func (PySem.W.fnOf "__init__" "NoLine.__init__" (defArgs (cp 5)) (defBody (cp 5)) (defScope (cp 5)) .none xkV3 xdc3 xpm3 xan3 xcd3 xct3), xsl3⟩)
  (x3d : PySem.W.codeIn K xcd3 "NoLine.__init__" = true)
  (x3k : PySem.W.keepIn K (.ref xI3) = true)
  (x3_14 : PySem.W.findIn K (.ref xC3) "__getattribute__" = some (some (.builtin "BaseException.__getattribute__")))
  (x3_15 : PySem.W.findIn K (.ref xC3) "__getattr__" = some none)
  (x3_16 : PySem.W.hasDictIn K xC3 = true)
  (x3_17 : PySem.W.findIn K (.ref xC3) "__class__" = some (some (.builtin "object.__class__")))
  (x3_18 : PySem.W.specialIn K (.builtin "object.__class__") "__get__" = some (some (.builtin "getset_descriptor.__get__")))
  (x3_19 : PySem.W.takesIn K (.builtin "object.__class__") = some true)
  (x3_20 : PySem.W.mroIn K xC3 (.type "object") = some true)
  (x3_V : PySem.W.subIn K (.ref xC3) (.type "ValueError") = some true)
  (x3_S : PySem.W.subIn K (.ref xC3) (.ref xC3) = some true)
  (x3_B : PySem.W.subIn K (.ref xC3) (.ref xCb) = some true)
  (x3_n0 : PySem.W.subIn K (.ref xC3) (.ref xC0) = some false)
  (x3_n1 : PySem.W.subIn K (.ref xC3) (.ref xC1) = some false)
  (x3_n2 : PySem.W.subIn K (.ref xC3) (.ref xC2) = some false)
  (x3_n4 : PySem.W.subIn K (.ref xC3) (.ref xC4) = some false)
  (x3_n5 : PySem.W.subIn K (.ref xC3) (.ref xC5) = some false)
  (x3_n6 : PySem.W.subIn K (.ref xC3) (.ref xC6) = some false)
  (x3_n7 : PySem.W.subIn K (.ref xC3) (.ref xC7) = some false)
  (x3_n8 : PySem.W.subIn K (.ref xC3) (.ref xC8) = some false)
  (x3_n9 : PySem.W.subIn K (.ref xC3) (.ref xC9) = some false)
  (x3_n10 : PySem.W.subIn K (.ref xC3) (.ref xC10) = some false)
  (x3_n11 : PySem.W.subIn K (.ref xC3) (.ref xC11) = some false)
  {xI4 xN4 : Addr} {xod4 xan4 : Option Addr} {xsl4 : Array (Option Value)} {xoc4 xkV4 xdc4 xpm4 xcd4 xct4 : Value} {xnm4 xqn4 : Str} {xbs4 xbm4 : List Value} {xsn4 xsub4 xab4 xcol4 xdd4 xk04 xk14 xk24 xk34 xk54 : _}
  (x4_1 : PySem.W.nsIn K mainGlobals "NoStand" = some (some (.ref xC4)))
  (x4_2 : K.lookup xC4 = some (excClassObj xnm4 xqn4 xC4 xN4 xbs4 xbm4 true xsn4 xsub4 xab4 xcol4 xdd4 xk04 xk14 xk24 xk34 xk54 "ValueError.__new__"))
  (x4_3 : PySem.HandSPX.refsVE xbm4 = true)
  (x4_4 : PySem.W.findIn K (.ref xC4) "__setattr__" = some (some (.builtin "object.__setattr__")))
  (x4_5 : PySem.W.subIn K (.ref xC4) (.type "BaseException") = some true)
  (x4_6 : PySem.W.typeIn K (.ref xC4) = some (.type "type"))
  (x4_7 : PySem.W.keepIn K (.ref xC4) = true)
  (x4_8 : PySem.W.findIn K (.ref xC4) "stand" = some none)
  (x4_9 : PySem.W.findIn K (.ref xC4) "__init__" = some (some (.ref xI4)))
  (x4_10 : PySem.W.typeIn K (.ref xI4) = some (.type "function"))
  (x4l : K.lookup xI4 = some ⟨xoc4, xod4, .func (PySem.W.fnOf "__init__" "NoStand.__init__" (defArgs (cp 6)) (defBody (cp 6)) (defScope (cp 6)) .none xkV4 xdc4 xpm4 xan4 xcd4 xct4), xsl4⟩)
  (x4d : PySem.W.codeIn K xcd4 "NoStand.__init__" = true)
  (x4k : PySem.W.keepIn K (.ref xI4) = true)
  (x4_14 : PySem.W.findIn K (.ref xC4) "__getattribute__" = some (some (.builtin "BaseException.__getattribute__")))
  (x4_15 : PySem.W.findIn K (.ref xC4) "__getattr__" = some none)
  (x4_16 : PySem.W.hasDictIn K xC4 = true)
  (x4_17 : PySem.W.findIn K (.ref xC4) "__class__" = some (some (.builtin "object.__class__")))
  (x4_18 : PySem.W.specialIn K (.builtin "object.__class__") "__get__" = some (some (.builtin "getset_descriptor.__get__")))
  (x4_19 : PySem.W.takesIn K (.builtin "object.__class__") = some true)
  (x4_20 : PySem.W.mroIn K xC4 (.type "object") = some true)
  (x4_V : PySem.W.subIn K (.ref xC4) (.type "ValueError") = some true)
  (x4_S : PySem.W.subIn K (.ref xC4) (.ref xC4) = some true)
  (x4_B : PySem.W.subIn K (.ref xC4) (.ref xCb) = some true)
  (x4_n0 : PySem.W.subIn K (.ref xC4) (.ref xC0) = some false)
  (x4_n1 : PySem.W.subIn K (.ref xC4) (.ref xC1) = some false)
  (x4_n2 : PySem.W.subIn K (.ref xC4) (.ref xC2) = some false)
  (x4_n3 : PySem.W.subIn K (.ref xC4) (.ref xC3) = some false)
  (x4_n5 : PySem.W.subIn K (.ref xC4) (.ref xC5) = some false)
  (x4_n6 : PySem.W.subIn K (.ref xC4) (.ref xC6) = some false)
  (x4_n7 : PySem.W.subIn K (.ref xC4) (.ref xC7) = some false)
  (x4_n8 : PySem.W.subIn K (.ref xC4) (.ref xC8) = some false)
  (x4_n9 : PySem.W.subIn K (.ref xC4) (.ref xC9) = some false)
  (x4_n10 : PySem.W.subIn K (.ref xC4) (.ref xC10) = some false)
  (x4_n11 : PySem.W.subIn K (.ref xC4) (.ref xC11) = some false)
  {xI5 xN5 : Addr} {xod5 xan5 : Option Addr} {xsl5 : Array (Option Value)} {xoc5 xkV5 xdc5 xpm5 xcd5 xct5 : Value} {xnm5 xqn5 : Str} {xbs5 xbm5 : List Value} {xsn5 xsub5 xab5 xcol5 xdd5 xk05 xk15 xk25 xk35 xk55 : _}
  (x5_1 : PySem.W.nsIn K mainGlobals "NoWay" = some (some (.ref xC5)))
  (x5_2 : K.lookup xC5 = some (excClassObj xnm5 xqn5 xC5 xN5 xbs5 xbm5 true xsn5 xsub5 xab5 xcol5 xdd5 xk05 xk15 xk25 xk35 xk55 "ValueError.__new__"))
  (x5_3 : PySem.HandSPX.refsVE xbm5 = true)
  (x5_4 : PySem.W.findIn K (.ref xC5) "__setattr__" = some (some (.builtin "object.__setattr__")))
  (x5_5 : PySem.W.subIn K (.ref xC5) (.type "BaseException") = some true)
  (x5_6 : PySem.W.typeIn K (.ref xC5) = some (.type "type"))
  (x5_7 : PySem.W.keepIn K (.ref xC5) = true)
  (x5_8 : PySem.W.findIn K (.ref xC5) "place" = some none)
  (x5_9 : PySem.W.findIn K (.ref xC5) "__init__" = some (some (.ref xI5)))
  (x5_10 : PySem.W.typeIn K (.ref xI5) = some (.type "function"))
  (x5l : K.lookup xI5 = some ⟨xoc5, xod5, .func (PySem.W.fnOf "__init__" "NoWay.__init__" (defArgs (cp 7)) (defBody (cp 7)) (defScope (cp 7)) .none xkV5 xdc5 xpm5 xan5 xcd5 xct5), xsl5⟩)
  (x5d : PySem.W.codeIn K xcd5 "NoWay.__init__" = true)
  (x5k : PySem.W.keepIn K (.ref xI5) = true)
  (x5_14 : PySem.W.findIn K (.ref xC5) "__getattribute__" = some (some (.builtin "BaseException.__getattribute__")))
  (x5_15 : PySem.W.findIn K (.ref xC5) "__getattr__" = some none)
  (x5_16 : PySem.W.hasDictIn K xC5 = true)
  (x5_17 : PySem.W.findIn K (.ref xC5) "__class__" = some (some (.builtin "object.__class__")))
  (x5_18 : PySem.W.specialIn K (.builtin "object.__class__") "__get__" = some (some (.builtin "getset_descriptor.__get__")))
  (x5_19 : PySem.W.takesIn K (.builtin "object.__class__") = some true)
  (x5_20 : PySem.W.mroIn K xC5 (.type "object") = some true)
  (x5_V : PySem.W.subIn K (.ref xC5) (.type "ValueError") = some true)
  (x5_S : PySem.W.subIn K (.ref xC5) (.ref xC5) = some true)
  (x5_B : PySem.W.subIn K (.ref xC5) (.ref xCb) = some true)
  (x5_n0 : PySem.W.subIn K (.ref xC5) (.ref xC0) = some false)
  (x5_n1 : PySem.W.subIn K (.ref xC5) (.ref xC1) = some false)
  (x5_n2 : PySem.W.subIn K (.ref xC5) (.ref xC2) = some false)
  (x5_n3 : PySem.W.subIn K (.ref xC5) (.ref xC3) = some false)
  (x5_n4 : PySem.W.subIn K (.ref xC5) (.ref xC4) = some false)
  (x5_n6 : PySem.W.subIn K (.ref xC5) (.ref xC6) = some false)
  (x5_n7 : PySem.W.subIn K (.ref xC5) (.ref xC7) = some false)
  (x5_n8 : PySem.W.subIn K (.ref xC5) (.ref xC8) = some false)
  (x5_n9 : PySem.W.subIn K (.ref xC5) (.ref xC9) = some false)
  (x5_n10 : PySem.W.subIn K (.ref xC5) (.ref xC10) = some false)
  (x5_n11 : PySem.W.subIn K (.ref xC5) (.ref xC11) = some false)
  {xI6 xN6 : Addr} {xod6 xan6 : Option Addr} {xsl6 : Array (Option Value)} {xoc6 xkV6 xdc6 xpm6 xcd6 xct6 : Value} {xnm6 xqn6 : Str} {xbs6 xbm6 : List Value} {xsn6 xsub6 xab6 xcol6 xdd6 xk06 xk16 xk26 xk36 xk56 : _}
  (x6_1 : PySem.W.nsIn K mainGlobals "NoSplit" = some (some (.ref xC6)))
  (x6_2 : K.lookup xC6 = some (excClassObj xnm6 xqn6 xC6 xN6 xbs6 xbm6 true xsn6 xsub6 xab6 xcol6 xdd6 xk06 xk16 xk26 xk36 xk56 "ValueError.__new__"))
  (x6_3 : PySem.HandSPX.refsVE xbm6 = true)
  (x6_4 : PySem.W.findIn K (.ref xC6) "__setattr__" = some (some (.builtin "object.__setattr__")))
  (x6_5 : PySem.W.subIn K (.ref xC6) (.type "BaseException") = some true)
  (x6_6 : PySem.W.typeIn K (.ref xC6) = some (.type "type"))
  (x6_7 : PySem.W.keepIn K (.ref xC6) = true)
  (x6_8 : PySem.W.findIn K (.ref xC6) "given" = some none)
  (x6_9 : PySem.W.findIn K (.ref xC6) "__init__" = some (some (.ref xI6)))
  (x6_10 : PySem.W.typeIn K (.ref xI6) = some (.type "function"))
  (x6l : K.lookup xI6 = some ⟨xoc6, xod6, .func (PySem.W.fnOf "__init__" "NoSplit.__init__" (defArgs (cp 8)) (defBody (cp 8)) (defScope (cp 8)) .none xkV6 xdc6 xpm6 xan6 xcd6 xct6), xsl6⟩)
  (x6d : PySem.W.codeIn K xcd6 "NoSplit.__init__" = true)
  (x6k : PySem.W.keepIn K (.ref xI6) = true)
  (x6_14 : PySem.W.findIn K (.ref xC6) "__getattribute__" = some (some (.builtin "BaseException.__getattribute__")))
  (x6_15 : PySem.W.findIn K (.ref xC6) "__getattr__" = some none)
  (x6_16 : PySem.W.hasDictIn K xC6 = true)
  (x6_17 : PySem.W.findIn K (.ref xC6) "__class__" = some (some (.builtin "object.__class__")))
  (x6_18 : PySem.W.specialIn K (.builtin "object.__class__") "__get__" = some (some (.builtin "getset_descriptor.__get__")))
  (x6_19 : PySem.W.takesIn K (.builtin "object.__class__") = some true)
  (x6_20 : PySem.W.mroIn K xC6 (.type "object") = some true)
  (x6_V : PySem.W.subIn K (.ref xC6) (.type "ValueError") = some true)
  (x6_S : PySem.W.subIn K (.ref xC6) (.ref xC6) = some true)
  (x6_B : PySem.W.subIn K (.ref xC6) (.ref xCb) = some true)
  (x6_n0 : PySem.W.subIn K (.ref xC6) (.ref xC0) = some false)
  (x6_n1 : PySem.W.subIn K (.ref xC6) (.ref xC1) = some false)
  (x6_n2 : PySem.W.subIn K (.ref xC6) (.ref xC2) = some false)
  (x6_n3 : PySem.W.subIn K (.ref xC6) (.ref xC3) = some false)
  (x6_n4 : PySem.W.subIn K (.ref xC6) (.ref xC4) = some false)
  (x6_n5 : PySem.W.subIn K (.ref xC6) (.ref xC5) = some false)
  (x6_n7 : PySem.W.subIn K (.ref xC6) (.ref xC7) = some false)
  (x6_n8 : PySem.W.subIn K (.ref xC6) (.ref xC8) = some false)
  (x6_n9 : PySem.W.subIn K (.ref xC6) (.ref xC9) = some false)
  (x6_n10 : PySem.W.subIn K (.ref xC6) (.ref xC10) = some false)
  (x6_n11 : PySem.W.subIn K (.ref xC6) (.ref xC11) = some false)
  {xI7 xN7 : Addr} {xod7 xan7 : Option Addr} {xsl7 : Array (Option Value)} {xoc7 xkV7 xdc7 xpm7 xcd7 xct7 : Value} {xnm7 xqn7 : Str} {xbs7 xbm7 : List Value} {xsn7 xsub7 xab7 xcol7 xdd7 xk07 xk17 xk27 xk37 xk57 : _}
  (x7_1 : PySem.W.nsIn K mainGlobals "NoNumber" = some (some (.ref xC7)))
  (x7_2 : K.lookup xC7 = some (excClassObj xnm7 xqn7 xC7 xN7 xbs7 xbm7 true xsn7 xsub7 xab7 xcol7 xdd7 xk07 xk17 xk27 xk37 xk57 "ValueError.__new__"))
  (x7_3 : PySem.HandSPX.refsVE xbm7 = true)
  (x7_4 : PySem.W.findIn K (.ref xC7) "__setattr__" = some (some (.builtin "object.__setattr__")))
  (x7_5 : PySem.W.subIn K (.ref xC7) (.type "BaseException") = some true)
  (x7_6 : PySem.W.typeIn K (.ref xC7) = some (.type "type"))
  (x7_7 : PySem.W.keepIn K (.ref xC7) = true)
  (x7_8 : PySem.W.findIn K (.ref xC7) "number" = some none)
  (x7_9 : PySem.W.findIn K (.ref xC7) "__init__" = some (some (.ref xI7)))
  (x7_10 : PySem.W.typeIn K (.ref xI7) = some (.type "function"))
  (x7l : K.lookup xI7 = some ⟨xoc7, xod7, .func (PySem.W.fnOf "__init__" "NoNumber.__init__" (defArgs (cp 9)) (defBody (cp 9)) (defScope (cp 9)) .none xkV7 xdc7 xpm7 xan7 xcd7 xct7), xsl7⟩)
  (x7d : PySem.W.codeIn K xcd7 "NoNumber.__init__" = true)
  (x7k : PySem.W.keepIn K (.ref xI7) = true)
  (x7_14 : PySem.W.findIn K (.ref xC7) "__getattribute__" = some (some (.builtin "BaseException.__getattribute__")))
  (x7_15 : PySem.W.findIn K (.ref xC7) "__getattr__" = some none)
  (x7_16 : PySem.W.hasDictIn K xC7 = true)
  (x7_17 : PySem.W.findIn K (.ref xC7) "__class__" = some (some (.builtin "object.__class__")))
  (x7_18 : PySem.W.specialIn K (.builtin "object.__class__") "__get__" = some (some (.builtin "getset_descriptor.__get__")))
  (x7_19 : PySem.W.takesIn K (.builtin "object.__class__") = some true)
  (x7_20 : PySem.W.mroIn K xC7 (.type "object") = some true)
  (x7_V : PySem.W.subIn K (.ref xC7) (.type "ValueError") = some true)
  (x7_S : PySem.W.subIn K (.ref xC7) (.ref xC7) = some true)
  (x7_B : PySem.W.subIn K (.ref xC7) (.ref xCb) = some true)
  (x7_n0 : PySem.W.subIn K (.ref xC7) (.ref xC0) = some false)
  (x7_n1 : PySem.W.subIn K (.ref xC7) (.ref xC1) = some false)
  (x7_n2 : PySem.W.subIn K (.ref xC7) (.ref xC2) = some false)
  (x7_n3 : PySem.W.subIn K (.ref xC7) (.ref xC3) = some false)
  (x7_n4 : PySem.W.subIn K (.ref xC7) (.ref xC4) = some false)
  (x7_n5 : PySem.W.subIn K (.ref xC7) (.ref xC5) = some false)
  (x7_n6 : PySem.W.subIn K (.ref xC7) (.ref xC6) = some false)
  (x7_n8 : PySem.W.subIn K (.ref xC7) (.ref xC8) = some false)
  (x7_n9 : PySem.W.subIn K (.ref xC7) (.ref xC9) = some false)
  (x7_n10 : PySem.W.subIn K (.ref xC7) (.ref xC10) = some false)
  (x7_n11 : PySem.W.subIn K (.ref xC7) (.ref xC11) = some false)
  {xI8 xN8 : Addr} {xod8 xan8 : Option Addr} {xsl8 : Array (Option Value)} {xoc8 xkV8 xdc8 xpm8 xcd8 xct8 : Value} {xnm8 xqn8 : Str} {xbs8 xbm8 : List Value} {xsn8 xsub8 xab8 xcol8 xdd8 xk08 xk18 xk28 xk38 xk58 : _}
  (x8_1 : PySem.W.nsIn K mainGlobals "BadAnswer" = some (some (.ref xC8)))
  (x8_2 : K.lookup xC8 = some (excClassObj xnm8 xqn8 xC8 xN8 xbs8 xbm8 true xsn8 xsub8 xab8 xcol8 xdd8 xk08 xk18 xk28 xk38 xk58 "ValueError.__new__"))
  (x8_3 : PySem.HandSPX.refsVE xbm8 = true)
  (x8_4 : PySem.W.findIn K (.ref xC8) "__setattr__" = some (some (.builtin "object.__setattr__")))
  (x8_5 : PySem.W.subIn K (.ref xC8) (.type "BaseException") = some true)
  (x8_6 : PySem.W.typeIn K (.ref xC8) = some (.type "type"))
  (x8_7 : PySem.W.keepIn K (.ref xC8) = true)
  (x8_8 : PySem.W.findIn K (.ref xC8) "answer" = some none)
  (x8_9 : PySem.W.findIn K (.ref xC8) "__init__" = some (some (.ref xI8)))
  (x8_10 : PySem.W.typeIn K (.ref xI8) = some (.type "function"))
  (x8l : K.lookup xI8 = some ⟨xoc8, xod8, .func (PySem.W.fnOf "__init__" "BadAnswer.__init__" (defArgs (cp 10)) (defBody (cp 10)) (defScope (cp 10)) .none xkV8 xdc8 xpm8 xan8 xcd8 xct8), xsl8⟩)
  (x8d : PySem.W.codeIn K xcd8 "BadAnswer.__init__" = true)
  (x8k : PySem.W.keepIn K (.ref xI8) = true)
  (x8_14 : PySem.W.findIn K (.ref xC8) "__getattribute__" = some (some (.builtin "BaseException.__getattribute__")))
  (x8_15 : PySem.W.findIn K (.ref xC8) "__getattr__" = some none)
  (x8_16 : PySem.W.hasDictIn K xC8 = true)
  (x8_17 : PySem.W.findIn K (.ref xC8) "__class__" = some (some (.builtin "object.__class__")))
  (x8_18 : PySem.W.specialIn K (.builtin "object.__class__") "__get__" = some (some (.builtin "getset_descriptor.__get__")))
  (x8_19 : PySem.W.takesIn K (.builtin "object.__class__") = some true)
  (x8_20 : PySem.W.mroIn K xC8 (.type "object") = some true)
  (x8_V : PySem.W.subIn K (.ref xC8) (.type "ValueError") = some true)
  (x8_S : PySem.W.subIn K (.ref xC8) (.ref xC8) = some true)
  (x8_B : PySem.W.subIn K (.ref xC8) (.ref xCb) = some true)
  (x8_n0 : PySem.W.subIn K (.ref xC8) (.ref xC0) = some false)
  (x8_n1 : PySem.W.subIn K (.ref xC8) (.ref xC1) = some false)
  (x8_n2 : PySem.W.subIn K (.ref xC8) (.ref xC2) = some false)
  (x8_n3 : PySem.W.subIn K (.ref xC8) (.ref xC3) = some false)
  (x8_n4 : PySem.W.subIn K (.ref xC8) (.ref xC4) = some false)
  (x8_n5 : PySem.W.subIn K (.ref xC8) (.ref xC5) = some false)
  (x8_n6 : PySem.W.subIn K (.ref xC8) (.ref xC6) = some false)
  (x8_n7 : PySem.W.subIn K (.ref xC8) (.ref xC7) = some false)
  (x8_n9 : PySem.W.subIn K (.ref xC8) (.ref xC9) = some false)
  (x8_n10 : PySem.W.subIn K (.ref xC8) (.ref xC10) = some false)
  (x8_n11 : PySem.W.subIn K (.ref xC8) (.ref xC11) = some false)
  {xI9 xN9 : Addr} {xod9 xan9 : Option Addr} {xsl9 : Array (Option Value)} {xoc9 xkV9 xdc9 xpm9 xcd9 xct9 : Value} {xnm9 xqn9 : Str} {xbs9 xbm9 : List Value} {xsn9 xsub9 xab9 xcol9 xdd9 xk09 xk19 xk29 xk39 xk59 : _}
  (x9_1 : PySem.W.nsIn K mainGlobals "NothingDone" = some (some (.ref xC9)))
  (x9_2 : K.lookup xC9 = some (excClassObj xnm9 xqn9 xC9 xN9 xbs9 xbm9 true xsn9 xsub9 xab9 xcol9 xdd9 xk09 xk19 xk29 xk39 xk59 "ValueError.__new__"))
  (x9_3 : PySem.HandSPX.refsVE xbm9 = true)
  (x9_4 : PySem.W.findIn K (.ref xC9) "__setattr__" = some (some (.builtin "object.__setattr__")))
  (x9_5 : PySem.W.subIn K (.ref xC9) (.type "BaseException") = some true)
  (x9_6 : PySem.W.typeIn K (.ref xC9) = some (.type "type"))
  (x9_7 : PySem.W.keepIn K (.ref xC9) = true)
  (x9_8 : PySem.W.findIn K (.ref xC9) "given" = some none)
  (x9_9 : PySem.W.findIn K (.ref xC9) "__init__" = some (some (.ref xI9)))
  (x9_10 : PySem.W.typeIn K (.ref xI9) = some (.type "function"))
  (x9l : K.lookup xI9 = some ⟨xoc9, xod9, .func (PySem.W.fnOf "__init__" "NothingDone.__init__" (defArgs (cp 11)) (defBody (cp 11)) (defScope (cp 11)) .none xkV9 xdc9 xpm9 xan9 xcd9 xct9), xsl9⟩)
  (x9d : PySem.W.codeIn K xcd9 "NothingDone.__init__" = true)
  (x9k : PySem.W.keepIn K (.ref xI9) = true)
  (x9_14 : PySem.W.findIn K (.ref xC9) "__getattribute__" = some (some (.builtin "BaseException.__getattribute__")))
  (x9_15 : PySem.W.findIn K (.ref xC9) "__getattr__" = some none)
  (x9_16 : PySem.W.hasDictIn K xC9 = true)
  (x9_17 : PySem.W.findIn K (.ref xC9) "__class__" = some (some (.builtin "object.__class__")))
  (x9_18 : PySem.W.specialIn K (.builtin "object.__class__") "__get__" = some (some (.builtin "getset_descriptor.__get__")))
  (x9_19 : PySem.W.takesIn K (.builtin "object.__class__") = some true)
  (x9_20 : PySem.W.mroIn K xC9 (.type "object") = some true)
  (x9_V : PySem.W.subIn K (.ref xC9) (.type "ValueError") = some true)
  (x9_S : PySem.W.subIn K (.ref xC9) (.ref xC9) = some true)
  (x9_B : PySem.W.subIn K (.ref xC9) (.ref xCb) = some true)
  (x9_n0 : PySem.W.subIn K (.ref xC9) (.ref xC0) = some false)
  (x9_n1 : PySem.W.subIn K (.ref xC9) (.ref xC1) = some false)
  (x9_n2 : PySem.W.subIn K (.ref xC9) (.ref xC2) = some false)
  (x9_n3 : PySem.W.subIn K (.ref xC9) (.ref xC3) = some false)
  (x9_n4 : PySem.W.subIn K (.ref xC9) (.ref xC4) = some false)
  (x9_n5 : PySem.W.subIn K (.ref xC9) (.ref xC5) = some false)
  (x9_n6 : PySem.W.subIn K (.ref xC9) (.ref xC6) = some false)
  (x9_n7 : PySem.W.subIn K (.ref xC9) (.ref xC7) = some false)
  (x9_n8 : PySem.W.subIn K (.ref xC9) (.ref xC8) = some false)
  (x9_n10 : PySem.W.subIn K (.ref xC9) (.ref xC10) = some false)
  (x9_n11 : PySem.W.subIn K (.ref xC9) (.ref xC11) = some false)
  {xI10 xN10 : Addr} {xod10 xan10 : Option Addr} {xsl10 : Array (Option Value)} {xoc10 xkV10 xdc10 xpm10 xcd10 xct10 : Value} {xnm10 xqn10 : Str} {xbs10 xbm10 : List Value} {xsn10 xsub10 xab10 xcol10 xdd10 xk010 xk110 xk210 xk310 xk510 : _}
  (x10_1 : PySem.W.nsIn K mainGlobals "Known" = some (some (.ref xC10)))
  (x10_2 : K.lookup xC10 = some (excClassObj xnm10 xqn10 xC10 xN10 xbs10 xbm10 true xsn10 xsub10 xab10 xcol10 xdd10 xk010 xk110 xk210 xk310 xk510 "ValueError.__new__"))
  (x10_3 : PySem.HandSPX.refsVE xbm10 = true)
  (x10_4 : PySem.W.findIn K (.ref xC10) "__setattr__" = some (some (.builtin "object.__setattr__")))
  (x10_5 : PySem.W.subIn K (.ref xC10) (.type "BaseException") = some true)
  (x10_6 : PySem.W.typeIn K (.ref xC10) = some (.type "type"))
  (x10_7 : PySem.W.keepIn K (.ref xC10) = true)
  (x10_8 : PySem.W.findIn K (.ref xC10) "name" = some none)
  (x10_9 : PySem.W.findIn K (.ref xC10) "__init__" = some (some (.ref xI10)))
  (x10_10 : PySem.W.typeIn K (.ref xI10) = some (.type "function"))
  (x10l : K.lookup xI10 = some ⟨xoc10, xod10, .func (PySem.W.fnOf "__init__" "Known.__init__" (defArgs (cp 12)) (defBody (cp 12)) (defScope (cp 12)) .none xkV10 xdc10 xpm10 xan10 xcd10 xct10), xsl10⟩)
  (x10d : PySem.W.codeIn K xcd10 "Known.__init__" = true)
  (x10k : PySem.W.keepIn K (.ref xI10) = true)
  (x10_14 : PySem.W.findIn K (.ref xC10) "__getattribute__" = some (some (.builtin "BaseException.__getattribute__")))
  (x10_15 : PySem.W.findIn K (.ref xC10) "__getattr__" = some none)
  (x10_16 : PySem.W.hasDictIn K xC10 = true)
  (x10_17 : PySem.W.findIn K (.ref xC10) "__class__" = some (some (.builtin "object.__class__")))
  (x10_18 : PySem.W.specialIn K (.builtin "object.__class__") "__get__" = some (some (.builtin "getset_descriptor.__get__")))
  (x10_19 : PySem.W.takesIn K (.builtin "object.__class__") = some true)
  (x10_20 : PySem.W.mroIn K xC10 (.type "object") = some true)
  (x10_V : PySem.W.subIn K (.ref xC10) (.type "ValueError") = some true)
  (x10_S : PySem.W.subIn K (.ref xC10) (.ref xC10) = some true)
  (x10_B : PySem.W.subIn K (.ref xC10) (.ref xCb) = some true)
  (x10_n0 : PySem.W.subIn K (.ref xC10) (.ref xC0) = some false)
  (x10_n1 : PySem.W.subIn K (.ref xC10) (.ref xC1) = some false)
  (x10_n2 : PySem.W.subIn K (.ref xC10) (.ref xC2) = some false)
  (x10_n3 : PySem.W.subIn K (.ref xC10) (.ref xC3) = some false)
  (x10_n4 : PySem.W.subIn K (.ref xC10) (.ref xC4) = some false)
  (x10_n5 : PySem.W.subIn K (.ref xC10) (.ref xC5) = some false)
  (x10_n6 : PySem.W.subIn K (.ref xC10) (.ref xC6) = some false)
  (x10_n7 : PySem.W.subIn K (.ref xC10) (.ref xC7) = some false)
  (x10_n8 : PySem.W.subIn K (.ref xC10) (.ref xC8) = some false)
  (x10_n9 : PySem.W.subIn K (.ref xC10) (.ref xC9) = some false)
  (x10_n11 : PySem.W.subIn K (.ref xC10) (.ref xC11) = some false)
  {xI11 xN11 : Addr} {xod11 xan11 : Option Addr} {xsl11 : Array (Option Value)} {xoc11 xkV11 xdc11 xpm11 xcd11 xct11 : Value} {xnm11 xqn11 : Str} {xbs11 xbm11 : List Value} {xsn11 xsub11 xab11 xcol11 xdd11 xk011 xk111 xk211 xk311 xk511 : _}
  (x11_1 : PySem.W.nsIn K mainGlobals "NoMachine" = some (some (.ref xC11)))
  (x11_2 : K.lookup xC11 = some (excClassObj xnm11 xqn11 xC11 xN11 xbs11 xbm11 true xsn11 xsub11 xab11 xcol11 xdd11 xk011 xk111 xk211 xk311 xk511 "ValueError.__new__"))
  (x11_3 : PySem.HandSPX.refsVE xbm11 = true)
  (x11_4 : PySem.W.findIn K (.ref xC11) "__setattr__" = some (some (.builtin "object.__setattr__")))
  (x11_5 : PySem.W.subIn K (.ref xC11) (.type "BaseException") = some true)
  (x11_6 : PySem.W.typeIn K (.ref xC11) = some (.type "type"))
  (x11_7 : PySem.W.keepIn K (.ref xC11) = true)
  (x11_8 : PySem.W.findIn K (.ref xC11) "name" = some none)
  (x11_9 : PySem.W.findIn K (.ref xC11) "__init__" = some (some (.ref xI11)))
  (x11_10 : PySem.W.typeIn K (.ref xI11) = some (.type "function"))
  (x11l : K.lookup xI11 = some ⟨xoc11, xod11, .func (PySem.W.fnOf "__init__" "NoMachine.__init__" (defArgs (cp 13)) (defBody (cp 13)) (defScope (cp 13)) .none xkV11 xdc11 xpm11 xan11 xcd11 xct11), xsl11⟩)
  (x11d : PySem.W.codeIn K xcd11 "NoMachine.__init__" = true)
  (x11k : PySem.W.keepIn K (.ref xI11) = true)
  (x11_14 : PySem.W.findIn K (.ref xC11) "__getattribute__" = some (some (.builtin "BaseException.__getattribute__")))
  (x11_15 : PySem.W.findIn K (.ref xC11) "__getattr__" = some none)
  (x11_16 : PySem.W.hasDictIn K xC11 = true)
  (x11_17 : PySem.W.findIn K (.ref xC11) "__class__" = some (some (.builtin "object.__class__")))
  (x11_18 : PySem.W.specialIn K (.builtin "object.__class__") "__get__" = some (some (.builtin "getset_descriptor.__get__")))
  (x11_19 : PySem.W.takesIn K (.builtin "object.__class__") = some true)
  (x11_20 : PySem.W.mroIn K xC11 (.type "object") = some true)
  (x11_V : PySem.W.subIn K (.ref xC11) (.type "ValueError") = some true)
  (x11_S : PySem.W.subIn K (.ref xC11) (.ref xC11) = some true)
  (x11_B : PySem.W.subIn K (.ref xC11) (.ref xCb) = some true)
  (x11_n0 : PySem.W.subIn K (.ref xC11) (.ref xC0) = some false)
  (x11_n1 : PySem.W.subIn K (.ref xC11) (.ref xC1) = some false)
  (x11_n2 : PySem.W.subIn K (.ref xC11) (.ref xC2) = some false)
  (x11_n3 : PySem.W.subIn K (.ref xC11) (.ref xC3) = some false)
  (x11_n4 : PySem.W.subIn K (.ref xC11) (.ref xC4) = some false)
  (x11_n5 : PySem.W.subIn K (.ref xC11) (.ref xC5) = some false)
  (x11_n6 : PySem.W.subIn K (.ref xC11) (.ref xC6) = some false)
  (x11_n7 : PySem.W.subIn K (.ref xC11) (.ref xC7) = some false)
  (x11_n8 : PySem.W.subIn K (.ref xC11) (.ref xC8) = some false)
  (x11_n9 : PySem.W.subIn K (.ref xC11) (.ref xC9) = some false)
  (x11_n10 : PySem.W.subIn K (.ref xC11) (.ref xC10) = some false)
  : ∃ fd : FuncData, (∀ (s : Shared) (v : Value), BindsTo s fd ⟨[v], []⟩ [("_law_script", v)]) ∧ ∀ base : Heap, K.In base → base.Ns mainGlobals mg → FnOk l.prog w K mg base L2.CX0 100 fa fd ["_law_script"] (fun vs H Q _ => ∃ (a : Addr) (ns : List Int), vs = [.ref a] ∧ SqL K H a (ns.map V.int) ∧ ns.length ≤ 63 ∧ ∀ H', Q (.bl true) H') := by
  cases hfa.symm.trans (PySem.W.mg_of X G a7)
  have q0 := fun_mk (st := tp 15) l0 d0 k0
  have r0 : EntOk K mg tb 0 e0 g0 _ := ⟨q0, PySem.W.mg_of X G a0, q0.binds (ps := ["_law_script", "_law_k"]) fun _ _ _ _ _ _ us hl => match us, hl with | [_, _], _ => rfl, kw0⟩
  have q1 := fun_mk (st := tp 16) l1 d1 k1
  have r1 : EntOk K mg tb 1 e1 g1 _ := ⟨q1, PySem.W.mg_of X G a1, q1.binds (ps := ["_law_box_here", "_law_size_so"]) fun _ _ _ _ _ _ us hl => match us, hl with | [_, _], _ => rfl, kw1⟩
  have q2 := fun_mk (st := tp 17) l2 d2 k2
  have r2 : EntOk K mg tb 2 e2 g2 _ := ⟨q2, PySem.W.mg_of X G a2, q2.binds (ps := ["_law_script", "_law_top_so"]) fun _ _ _ _ _ _ us hl => match us, hl with | [_, _], _ => rfl, kw2⟩
  have q3 := fun_mk (st := tp 18) l3 d3 k3
  have r3 : EntOk K mg tb 3 e3 g3 _ := ⟨q3, PySem.W.mg_of X G a3, q3.binds (ps := ["_law_box_here", "_law_goods_so"]) fun _ _ _ _ _ _ us hl => match us, hl with | [_, _], _ => rfl, kw3⟩
  have q4 := fun_mk (st := tp 19) l4 d4 k4
  have r4 : EntOk K mg tb 4 e4 g4 _ := ⟨q4, PySem.W.mg_of X G a4, q4.binds (ps := ["_law_got", "_law_due"]) fun _ _ _ _ _ _ us hl => match us, hl with | [_, _], _ => rfl, kw4⟩
  have q5 := fun_mk (st := tp 20) l5 d5 k5
  have r5 : EntOk K mg tb 5 e5 g5 _ := ⟨q5, PySem.W.mg_of X G a5, q5.binds (ps := ["_law_caught"]) fun _ _ _ _ _ _ us hl => match us, hl with | [_], _ => rfl, kw5⟩
  have q6 := fun_mk (st := tp 21) l6 d6 k6
  have r6 : EntOk K mg tb 6 e6 g6 _ := ⟨q6, PySem.W.mg_of X G a6, q6.binds (ps := ["_law_box_here"]) fun _ _ _ _ _ _ us hl => match us, hl with | [_], _ => rfl, kw6⟩
  have q7 := fun_mk (st := tp 22) l7 d7 k7
  have r7 : EntOk K mg tb 7 e7 fa _ := ⟨q7, PySem.W.mg_of X G a7, q7.binds (ps := ["_law_script"]) fun _ _ _ _ _ _ us hl => match us, hl with | [_], _ => rfl, kw7⟩
  have E : ∀ (i : Nat) (e : Ent), ents[i]? = some e → ∃ f fd, EntOk K mg tb i e f fd := fun i e he => match i, he with
    | 0, he => by cases he; exact ⟨_, _, r0⟩
    | 1, he => by cases he; exact ⟨_, _, r1⟩
    | 2, he => by cases he; exact ⟨_, _, r2⟩
    | 3, he => by cases he; exact ⟨_, _, r3⟩
    | 4, he => by cases he; exact ⟨_, _, r4⟩
    | 5, he => by cases he; exact ⟨_, _, r5⟩
    | 6, he => by cases he; exact ⟨_, _, r6⟩
    | 7, he => by cases he; exact ⟨_, _, r7⟩
    | _ + 8, he => by cases he
  have B : ∀ x, tb.bl.contains x = true → mg x = none := fun x hx => by
    have hx : x ∈ tb.bl := by simpa using hx
    simp only [tb, List.mem_cons, List.not_mem_nil, or_false] at hx
    rcases hx with rfl | rfl | rfl | rfl | rfl | rfl | rfl | rfl | rfl | rfl | rfl | rfl | rfl
    · exact PySem.W.mg_none_of X G z0
    · exact PySem.W.mg_none_of X G z1
    · exact PySem.W.mg_none_of X G z2
    · exact PySem.W.mg_none_of X G z3
    · exact PySem.W.mg_none_of X G z4
    · exact PySem.W.mg_none_of X G z5
    · exact PySem.W.mg_none_of X G z6
    · exact PySem.W.mg_none_of X G z7
    · exact PySem.W.mg_none_of X G z8
    · exact PySem.W.mg_none_of X G z9
    · exact PySem.W.mg_none_of X G z10
    · exact PySem.W.mg_none_of X G z11
    · exact PySem.W.mg_none_of X G z12
  have G2 : ∀ (i : Nat) (x : Str), tb.gs[i]? = some x → ∃ d v u, gld i = some d ∧ mg x = some u ∧ RelV v u ∧ ∀ B H, Rp K B H v d := fun i x h => match i, h with
    | _, h => by cases h
  have xq0 := fun_mk (st := cp 2) x0l x0d x0k
  have xc0 : ClsOk K mg "BadText" "piece" xC0 := cls_mk (x := "self") (qv := "piece") (PySem.W.mg_of X G x0_1) x0_2 x0_3 x0_4 x0_5 x0_6 x0_7 x0_8 x0_9 x0_10 xq0 (xq0.binds (ps := ["self", "piece"]) fun _ _ _ _ _ _ us hl => match us, hl with | [_, _], _ => rfl) (by decide +kernel) (by decide +kernel) x0_14 x0_15 x0_16 x0_17 x0_18 x0_19 x0_20 x0_V x0_S x0_B (PySem.W.mg_of X G re1) re2 re3 (by decide +kernel) (by decide +kernel) (fun _ _ _ _ => .of_eq rfl)
  have xq1 := fun_mk (st := cp 3) x1l x1d x1k
  have xc1 : ClsOk K mg "BadLine" "number" xC1 := cls_mk (x := "self") (qv := "number") (PySem.W.mg_of X G x1_1) x1_2 x1_3 x1_4 x1_5 x1_6 x1_7 x1_8 x1_9 x1_10 xq1 (xq1.binds (ps := ["self", "number"]) fun _ _ _ _ _ _ us hl => match us, hl with | [_, _], _ => rfl) (by decide +kernel) (by decide +kernel) x1_14 x1_15 x1_16 x1_17 x1_18 x1_19 x1_20 x1_V x1_S x1_B (PySem.W.mg_of X G re1) re2 re3 (by decide +kernel) (by decide +kernel) (fun _ _ _ _ => .of_eq rfl)
  have xq2 := fun_mk (st := cp 4) x2l x2d x2k
  have xc2 : ClsOk K mg "NoStanding" "name" xC2 := cls_mk (x := "self") (qv := "name") (PySem.W.mg_of X G x2_1) x2_2 x2_3 x2_4 x2_5 x2_6 x2_7 x2_8 x2_9 x2_10 xq2 (xq2.binds (ps := ["self", "name"]) fun _ _ _ _ _ _ us hl => match us, hl with | [_, _], _ => rfl) (by decide +kernel) (by decide +kernel) x2_14 x2_15 x2_16 x2_17 x2_18 x2_19 x2_20 x2_V x2_S x2_B (PySem.W.mg_of X G re1) re2 re3 (by decide +kernel) (by decide +kernel) (fun _ _ _ _ => .of_eq rfl)
  have xq3 := fun_mk (st := cp 5) x3l x3d x3k
  have xc3 : ClsOk K mg "NoLine" "line" xC3 := cls_mk (x := "self") (qv := "line") (PySem.W.mg_of X G x3_1) x3_2 x3_3 x3_4 x3_5 x3_6 x3_7 x3_8 x3_9 x3_10 xq3 (xq3.binds (ps := ["self", "line"]) fun _ _ _ _ _ _ us hl => match us, hl with | [_, _], _ => rfl) (by decide +kernel) (by decide +kernel) x3_14 x3_15 x3_16 x3_17 x3_18 x3_19 x3_20 x3_V x3_S x3_B (PySem.W.mg_of X G re1) re2 re3 (by decide +kernel) (by decide +kernel) (fun _ _ _ _ => .of_eq rfl)
  have xq4 := fun_mk (st := cp 6) x4l x4d x4k
  have xc4 : ClsOk K mg "NoStand" "stand" xC4 := cls_mk (x := "self") (qv := "stand") (PySem.W.mg_of X G x4_1) x4_2 x4_3 x4_4 x4_5 x4_6 x4_7 x4_8 x4_9 x4_10 xq4 (xq4.binds (ps := ["self", "stand"]) fun _ _ _ _ _ _ us hl => match us, hl with | [_, _], _ => rfl) (by decide +kernel) (by decide +kernel) x4_14 x4_15 x4_16 x4_17 x4_18 x4_19 x4_20 x4_V x4_S x4_B (PySem.W.mg_of X G re1) re2 re3 (by decide +kernel) (by decide +kernel) (fun _ _ _ _ => .of_eq rfl)
  have xq5 := fun_mk (st := cp 7) x5l x5d x5k
  have xc5 : ClsOk K mg "NoWay" "place" xC5 := cls_mk (x := "self") (qv := "place") (PySem.W.mg_of X G x5_1) x5_2 x5_3 x5_4 x5_5 x5_6 x5_7 x5_8 x5_9 x5_10 xq5 (xq5.binds (ps := ["self", "place"]) fun _ _ _ _ _ _ us hl => match us, hl with | [_, _], _ => rfl) (by decide +kernel) (by decide +kernel) x5_14 x5_15 x5_16 x5_17 x5_18 x5_19 x5_20 x5_V x5_S x5_B (PySem.W.mg_of X G re1) re2 re3 (by decide +kernel) (by decide +kernel) (fun _ _ _ _ => .of_eq rfl)
  have xq6 := fun_mk (st := cp 8) x6l x6d x6k
  have xc6 : ClsOk K mg "NoSplit" "given" xC6 := cls_mk0 (x := "self") (PySem.W.mg_of X G x6_1) x6_2 x6_3 x6_4 x6_5 x6_6 x6_7 x6_8 x6_9 x6_10 xq6 (xq6.binds (ps := ["self"]) fun _ _ _ _ _ _ us hl => match us, hl with | [_], _ => rfl) (by decide +kernel) (by decide +kernel) x6_14 x6_15 x6_16 x6_17 x6_18 x6_19 x6_20 x6_V x6_S x6_B (PySem.W.mg_of X G re1) re2 re3 (by decide +kernel) rfl
  have xq7 := fun_mk (st := cp 9) x7l x7d x7k
  have xc7 : ClsOk K mg "NoNumber" "number" xC7 := cls_mk (x := "self") (qv := "number") (PySem.W.mg_of X G x7_1) x7_2 x7_3 x7_4 x7_5 x7_6 x7_7 x7_8 x7_9 x7_10 xq7 (xq7.binds (ps := ["self", "number"]) fun _ _ _ _ _ _ us hl => match us, hl with | [_, _], _ => rfl) (by decide +kernel) (by decide +kernel) x7_14 x7_15 x7_16 x7_17 x7_18 x7_19 x7_20 x7_V x7_S x7_B (PySem.W.mg_of X G re1) re2 re3 (by decide +kernel) (by decide +kernel) (fun _ _ _ _ => .of_eq rfl)
  have xq8 := fun_mk (st := cp 10) x8l x8d x8k
  have xc8 : ClsOk K mg "BadAnswer" "answer" xC8 := cls_mk (x := "self") (qv := "answer") (PySem.W.mg_of X G x8_1) x8_2 x8_3 x8_4 x8_5 x8_6 x8_7 x8_8 x8_9 x8_10 xq8 (xq8.binds (ps := ["self", "answer"]) fun _ _ _ _ _ _ us hl => match us, hl with | [_, _], _ => rfl) (by decide +kernel) (by decide +kernel) x8_14 x8_15 x8_16 x8_17 x8_18 x8_19 x8_20 x8_V x8_S x8_B (PySem.W.mg_of X G re1) re2 re3 (by decide +kernel) (by decide +kernel) (fun _ _ _ _ => .of_eq rfl)
  have xq9 := fun_mk (st := cp 11) x9l x9d x9k
  have xc9 : ClsOk K mg "NothingDone" "given" xC9 := cls_mk0 (x := "self") (PySem.W.mg_of X G x9_1) x9_2 x9_3 x9_4 x9_5 x9_6 x9_7 x9_8 x9_9 x9_10 xq9 (xq9.binds (ps := ["self"]) fun _ _ _ _ _ _ us hl => match us, hl with | [_], _ => rfl) (by decide +kernel) (by decide +kernel) x9_14 x9_15 x9_16 x9_17 x9_18 x9_19 x9_20 x9_V x9_S x9_B (PySem.W.mg_of X G re1) re2 re3 (by decide +kernel) rfl
  have xq10 := fun_mk (st := cp 12) x10l x10d x10k
  have xc10 : ClsOk K mg "Known" "name" xC10 := cls_mk (x := "self") (qv := "name") (PySem.W.mg_of X G x10_1) x10_2 x10_3 x10_4 x10_5 x10_6 x10_7 x10_8 x10_9 x10_10 xq10 (xq10.binds (ps := ["self", "name"]) fun _ _ _ _ _ _ us hl => match us, hl with | [_, _], _ => rfl) (by decide +kernel) (by decide +kernel) x10_14 x10_15 x10_16 x10_17 x10_18 x10_19 x10_20 x10_V x10_S x10_B (PySem.W.mg_of X G re1) re2 re3 (by decide +kernel) (by decide +kernel) (fun _ _ _ _ => .of_eq rfl)
  have xq11 := fun_mk (st := cp 13) x11l x11d x11k
  have xc11 : ClsOk K mg "NoMachine" "name" xC11 := cls_mk (x := "self") (qv := "name") (PySem.W.mg_of X G x11_1) x11_2 x11_3 x11_4 x11_5 x11_6 x11_7 x11_8 x11_9 x11_10 xq11 (xq11.binds (ps := ["self", "name"]) fun _ _ _ _ _ _ us hl => match us, hl with | [_, _], _ => rfl) (by decide +kernel) (by decide +kernel) x11_14 x11_15 x11_16 x11_17 x11_18 x11_19 x11_20 x11_V x11_S x11_B (PySem.W.mg_of X G re1) re2 re3 (by decide +kernel) (by decide +kernel) (fun _ _ _ _ => .of_eq rfl)
  have XX : ∀ (q : Nat) (n f : Str), tb.xs[q]? = some (n, f) → ClsOk K mg n f (caOf [xC0, xC1, xC2, xC3, xC4, xC5, xC6, xC7, xC8, xC9, xC10, xC11] q) := fun q n f h => match q, h with
    | 0, h => by cases h; exact xc0
    | 1, h => by cases h; exact xc1
    | 2, h => by cases h; exact xc2
    | 3, h => by cases h; exact xc3
    | 4, h => by cases h; exact xc4
    | 5, h => by cases h; exact xc5
    | 6, h => by cases h; exact xc6
    | 7, h => by cases h; exact xc7
    | 8, h => by cases h; exact xc8
    | 9, h => by cases h; exact xc9
    | 10, h => by cases h; exact xc10
    | 11, h => by cases h; exact xc11
    | _ + 12, h => by cases h
  have XM : ∀ (q x : Nat) (n f n' f' : Str), tb.xs[q]? = some (n, f) → tb.xs[x]? = some (n', f') → q ≠ x → PySem.W.exmOne K (.ref (caOf [xC0, xC1, xC2, xC3, xC4, xC5, xC6, xC7, xC8, xC9, xC10, xC11] q)) (.ref (caOf [xC0, xC1, xC2, xC3, xC4, xC5, xC6, xC7, xC8, xC9, xC10, xC11] x)) = some false := fun q x n f n' f' h1 h2 hn => match q, x, h1, h2, hn with
    | 0, 0, _, _, hn => absurd rfl hn
    | 0, 1, _, _, hn => exm_no x1_5 x1_6 x0_n1
    | 0, 2, _, _, hn => exm_no x2_5 x2_6 x0_n2
    | 0, 3, _, _, hn => exm_no x3_5 x3_6 x0_n3
    | 0, 4, _, _, hn => exm_no x4_5 x4_6 x0_n4
    | 0, 5, _, _, hn => exm_no x5_5 x5_6 x0_n5
    | 0, 6, _, _, hn => exm_no x6_5 x6_6 x0_n6
    | 0, 7, _, _, hn => exm_no x7_5 x7_6 x0_n7
    | 0, 8, _, _, hn => exm_no x8_5 x8_6 x0_n8
    | 0, 9, _, _, hn => exm_no x9_5 x9_6 x0_n9
    | 0, 10, _, _, hn => exm_no x10_5 x10_6 x0_n10
    | 0, 11, _, _, hn => exm_no x11_5 x11_6 x0_n11
    | 1, 0, _, _, hn => exm_no x0_5 x0_6 x1_n0
    | 1, 1, _, _, hn => absurd rfl hn
    | 1, 2, _, _, hn => exm_no x2_5 x2_6 x1_n2
    | 1, 3, _, _, hn => exm_no x3_5 x3_6 x1_n3
    | 1, 4, _, _, hn => exm_no x4_5 x4_6 x1_n4
    | 1, 5, _, _, hn => exm_no x5_5 x5_6 x1_n5
    | 1, 6, _, _, hn => exm_no x6_5 x6_6 x1_n6
    | 1, 7, _, _, hn => exm_no x7_5 x7_6 x1_n7
    | 1, 8, _, _, hn => exm_no x8_5 x8_6 x1_n8
    | 1, 9, _, _, hn => exm_no x9_5 x9_6 x1_n9
    | 1, 10, _, _, hn => exm_no x10_5 x10_6 x1_n10
    | 1, 11, _, _, hn => exm_no x11_5 x11_6 x1_n11
    | 2, 0, _, _, hn => exm_no x0_5 x0_6 x2_n0
    | 2, 1, _, _, hn => exm_no x1_5 x1_6 x2_n1
    | 2, 2, _, _, hn => absurd rfl hn
    | 2, 3, _, _, hn => exm_no x3_5 x3_6 x2_n3
    | 2, 4, _, _, hn => exm_no x4_5 x4_6 x2_n4
    | 2, 5, _, _, hn => exm_no x5_5 x5_6 x2_n5
    | 2, 6, _, _, hn => exm_no x6_5 x6_6 x2_n6
    | 2, 7, _, _, hn => exm_no x7_5 x7_6 x2_n7
    | 2, 8, _, _, hn => exm_no x8_5 x8_6 x2_n8
    | 2, 9, _, _, hn => exm_no x9_5 x9_6 x2_n9
    | 2, 10, _, _, hn => exm_no x10_5 x10_6 x2_n10
    | 2, 11, _, _, hn => exm_no x11_5 x11_6 x2_n11
    | 3, 0, _, _, hn => exm_no x0_5 x0_6 x3_n0
    | 3, 1, _, _, hn => exm_no x1_5 x1_6 x3_n1
    | 3, 2, _, _, hn => exm_no x2_5 x2_6 x3_n2
    | 3, 3, _, _, hn => absurd rfl hn
    | 3, 4, _, _, hn => exm_no x4_5 x4_6 x3_n4
    | 3, 5, _, _, hn => exm_no x5_5 x5_6 x3_n5
    | 3, 6, _, _, hn => exm_no x6_5 x6_6 x3_n6
    | 3, 7, _, _, hn => exm_no x7_5 x7_6 x3_n7
    | 3, 8, _, _, hn => exm_no x8_5 x8_6 x3_n8
    | 3, 9, _, _, hn => exm_no x9_5 x9_6 x3_n9
    | 3, 10, _, _, hn => exm_no x10_5 x10_6 x3_n10
    | 3, 11, _, _, hn => exm_no x11_5 x11_6 x3_n11
    | 4, 0, _, _, hn => exm_no x0_5 x0_6 x4_n0
    | 4, 1, _, _, hn => exm_no x1_5 x1_6 x4_n1
    | 4, 2, _, _, hn => exm_no x2_5 x2_6 x4_n2
    | 4, 3, _, _, hn => exm_no x3_5 x3_6 x4_n3
    | 4, 4, _, _, hn => absurd rfl hn
    | 4, 5, _, _, hn => exm_no x5_5 x5_6 x4_n5
    | 4, 6, _, _, hn => exm_no x6_5 x6_6 x4_n6
    | 4, 7, _, _, hn => exm_no x7_5 x7_6 x4_n7
    | 4, 8, _, _, hn => exm_no x8_5 x8_6 x4_n8
    | 4, 9, _, _, hn => exm_no x9_5 x9_6 x4_n9
    | 4, 10, _, _, hn => exm_no x10_5 x10_6 x4_n10
    | 4, 11, _, _, hn => exm_no x11_5 x11_6 x4_n11
    | 5, 0, _, _, hn => exm_no x0_5 x0_6 x5_n0
    | 5, 1, _, _, hn => exm_no x1_5 x1_6 x5_n1
    | 5, 2, _, _, hn => exm_no x2_5 x2_6 x5_n2
    | 5, 3, _, _, hn => exm_no x3_5 x3_6 x5_n3
    | 5, 4, _, _, hn => exm_no x4_5 x4_6 x5_n4
    | 5, 5, _, _, hn => absurd rfl hn
    | 5, 6, _, _, hn => exm_no x6_5 x6_6 x5_n6
    | 5, 7, _, _, hn => exm_no x7_5 x7_6 x5_n7
    | 5, 8, _, _, hn => exm_no x8_5 x8_6 x5_n8
    | 5, 9, _, _, hn => exm_no x9_5 x9_6 x5_n9
    | 5, 10, _, _, hn => exm_no x10_5 x10_6 x5_n10
    | 5, 11, _, _, hn => exm_no x11_5 x11_6 x5_n11
    | 6, 0, _, _, hn => exm_no x0_5 x0_6 x6_n0
    | 6, 1, _, _, hn => exm_no x1_5 x1_6 x6_n1
    | 6, 2, _, _, hn => exm_no x2_5 x2_6 x6_n2
    | 6, 3, _, _, hn => exm_no x3_5 x3_6 x6_n3
    | 6, 4, _, _, hn => exm_no x4_5 x4_6 x6_n4
    | 6, 5, _, _, hn => exm_no x5_5 x5_6 x6_n5
    | 6, 6, _, _, hn => absurd rfl hn
    | 6, 7, _, _, hn => exm_no x7_5 x7_6 x6_n7
    | 6, 8, _, _, hn => exm_no x8_5 x8_6 x6_n8
    | 6, 9, _, _, hn => exm_no x9_5 x9_6 x6_n9
    | 6, 10, _, _, hn => exm_no x10_5 x10_6 x6_n10
    | 6, 11, _, _, hn => exm_no x11_5 x11_6 x6_n11
    | 7, 0, _, _, hn => exm_no x0_5 x0_6 x7_n0
    | 7, 1, _, _, hn => exm_no x1_5 x1_6 x7_n1
    | 7, 2, _, _, hn => exm_no x2_5 x2_6 x7_n2
    | 7, 3, _, _, hn => exm_no x3_5 x3_6 x7_n3
    | 7, 4, _, _, hn => exm_no x4_5 x4_6 x7_n4
    | 7, 5, _, _, hn => exm_no x5_5 x5_6 x7_n5
    | 7, 6, _, _, hn => exm_no x6_5 x6_6 x7_n6
    | 7, 7, _, _, hn => absurd rfl hn
    | 7, 8, _, _, hn => exm_no x8_5 x8_6 x7_n8
    | 7, 9, _, _, hn => exm_no x9_5 x9_6 x7_n9
    | 7, 10, _, _, hn => exm_no x10_5 x10_6 x7_n10
    | 7, 11, _, _, hn => exm_no x11_5 x11_6 x7_n11
    | 8, 0, _, _, hn => exm_no x0_5 x0_6 x8_n0
    | 8, 1, _, _, hn => exm_no x1_5 x1_6 x8_n1
    | 8, 2, _, _, hn => exm_no x2_5 x2_6 x8_n2
    | 8, 3, _, _, hn => exm_no x3_5 x3_6 x8_n3
    | 8, 4, _, _, hn => exm_no x4_5 x4_6 x8_n4
    | 8, 5, _, _, hn => exm_no x5_5 x5_6 x8_n5
    | 8, 6, _, _, hn => exm_no x6_5 x6_6 x8_n6
    | 8, 7, _, _, hn => exm_no x7_5 x7_6 x8_n7
    | 8, 8, _, _, hn => absurd rfl hn
    | 8, 9, _, _, hn => exm_no x9_5 x9_6 x8_n9
    | 8, 10, _, _, hn => exm_no x10_5 x10_6 x8_n10
    | 8, 11, _, _, hn => exm_no x11_5 x11_6 x8_n11
    | 9, 0, _, _, hn => exm_no x0_5 x0_6 x9_n0
    | 9, 1, _, _, hn => exm_no x1_5 x1_6 x9_n1
    | 9, 2, _, _, hn => exm_no x2_5 x2_6 x9_n2
    | 9, 3, _, _, hn => exm_no x3_5 x3_6 x9_n3
    | 9, 4, _, _, hn => exm_no x4_5 x4_6 x9_n4
    | 9, 5, _, _, hn => exm_no x5_5 x5_6 x9_n5
    | 9, 6, _, _, hn => exm_no x6_5 x6_6 x9_n6
    | 9, 7, _, _, hn => exm_no x7_5 x7_6 x9_n7
    | 9, 8, _, _, hn => exm_no x8_5 x8_6 x9_n8
    | 9, 9, _, _, hn => absurd rfl hn
    | 9, 10, _, _, hn => exm_no x10_5 x10_6 x9_n10
    | 9, 11, _, _, hn => exm_no x11_5 x11_6 x9_n11
    | 10, 0, _, _, hn => exm_no x0_5 x0_6 x10_n0
    | 10, 1, _, _, hn => exm_no x1_5 x1_6 x10_n1
    | 10, 2, _, _, hn => exm_no x2_5 x2_6 x10_n2
    | 10, 3, _, _, hn => exm_no x3_5 x3_6 x10_n3
    | 10, 4, _, _, hn => exm_no x4_5 x4_6 x10_n4
    | 10, 5, _, _, hn => exm_no x5_5 x5_6 x10_n5
    | 10, 6, _, _, hn => exm_no x6_5 x6_6 x10_n6
    | 10, 7, _, _, hn => exm_no x7_5 x7_6 x10_n7
    | 10, 8, _, _, hn => exm_no x8_5 x8_6 x10_n8
    | 10, 9, _, _, hn => exm_no x9_5 x9_6 x10_n9
    | 10, 10, _, _, hn => absurd rfl hn
    | 10, 11, _, _, hn => exm_no x11_5 x11_6 x10_n11
    | 11, 0, _, _, hn => exm_no x0_5 x0_6 x11_n0
    | 11, 1, _, _, hn => exm_no x1_5 x1_6 x11_n1
    | 11, 2, _, _, hn => exm_no x2_5 x2_6 x11_n2
    | 11, 3, _, _, hn => exm_no x3_5 x3_6 x11_n3
    | 11, 4, _, _, hn => exm_no x4_5 x4_6 x11_n4
    | 11, 5, _, _, hn => exm_no x5_5 x5_6 x11_n5
    | 11, 6, _, _, hn => exm_no x6_5 x6_6 x11_n6
    | 11, 7, _, _, hn => exm_no x7_5 x7_6 x11_n7
    | 11, 8, _, _, hn => exm_no x8_5 x8_6 x11_n8
    | 11, 9, _, _, hn => exm_no x9_5 x9_6 x11_n9
    | 11, 10, _, _, hn => exm_no x10_5 x10_6 x11_n10
    | 11, 11, _, _, hn => absurd rfl hn
    | _ + 12, _, h1, _, _ => by cases h1
    | _, _ + 12, _, h2, _ => by cases h2
  have XN : ∀ (q : Nat) (n f : Str), tb.xs[q]? = some (n, f) → PySem.W.nsIn K mainGlobals n = some (some (.ref (caOf [xC0, xC1, xC2, xC3, xC4, xC5, xC6, xC7, xC8, xC9, xC10, xC11] q))) := fun q n f h => match q, h with
    | 0, h => by cases h; exact x0_1
    | 1, h => by cases h; exact x1_1
    | 2, h => by cases h; exact x2_1
    | 3, h => by cases h; exact x3_1
    | 4, h => by cases h; exact x4_1
    | 5, h => by cases h; exact x5_1
    | 6, h => by cases h; exact x6_1
    | 7, h => by cases h; exact x7_1
    | 8, h => by cases h; exact x8_1
    | 9, h => by cases h; exact x9_1
    | 10, h => by cases h; exact x10_1
    | 11, h => by cases h; exact x11_1
    | _ + 12, h => by cases h
  have XO : ∀ (q x : Nat) (n f n' f' : Str), tb.xs[q]? = some (n, f) → tb.xs[x]? = some (n', f') → PySem.W.kitOne K (.ref (caOf [xC0, xC1, xC2, xC3, xC4, xC5, xC6, xC7, xC8, xC9, xC10, xC11] q)) (.ref (caOf [xC0, xC1, xC2, xC3, xC4, xC5, xC6, xC7, xC8, xC9, xC10, xC11] x)) = some (n == n') := fun q x n f n' f' h1 h2 => match q, x, h1, h2 with
    | 0, 0, h1, h2 => by cases h1; cases h2; exact (kit_self _).trans (congrArg some (by decide +kernel))
    | 0, 1, h1, h2 => by cases h1; cases h2; exact (kit_no x1_5 x1_6 x0_S x0_n1).trans (congrArg some (by decide +kernel))
    | 0, 2, h1, h2 => by cases h1; cases h2; exact (kit_no x2_5 x2_6 x0_S x0_n2).trans (congrArg some (by decide +kernel))
    | 0, 3, h1, h2 => by cases h1; cases h2; exact (kit_no x3_5 x3_6 x0_S x0_n3).trans (congrArg some (by decide +kernel))
    | 0, 4, h1, h2 => by cases h1; cases h2; exact (kit_no x4_5 x4_6 x0_S x0_n4).trans (congrArg some (by decide +kernel))
    | 0, 5, h1, h2 => by cases h1; cases h2; exact (kit_no x5_5 x5_6 x0_S x0_n5).trans (congrArg some (by decide +kernel))
    | 0, 6, h1, h2 => by cases h1; cases h2; exact (kit_no x6_5 x6_6 x0_S x0_n6).trans (congrArg some (by decide +kernel))
    | 0, 7, h1, h2 => by cases h1; cases h2; exact (kit_no x7_5 x7_6 x0_S x0_n7).trans (congrArg some (by decide +kernel))
    | 0, 8, h1, h2 => by cases h1; cases h2; exact (kit_no x8_5 x8_6 x0_S x0_n8).trans (congrArg some (by decide +kernel))
    | 0, 9, h1, h2 => by cases h1; cases h2; exact (kit_no x9_5 x9_6 x0_S x0_n9).trans (congrArg some (by decide +kernel))
    | 0, 10, h1, h2 => by cases h1; cases h2; exact (kit_no x10_5 x10_6 x0_S x0_n10).trans (congrArg some (by decide +kernel))
    | 0, 11, h1, h2 => by cases h1; cases h2; exact (kit_no x11_5 x11_6 x0_S x0_n11).trans (congrArg some (by decide +kernel))
    | 1, 0, h1, h2 => by cases h1; cases h2; exact (kit_no x0_5 x0_6 x1_S x1_n0).trans (congrArg some (by decide +kernel))
    | 1, 1, h1, h2 => by cases h1; cases h2; exact (kit_self _).trans (congrArg some (by decide +kernel))
    | 1, 2, h1, h2 => by cases h1; cases h2; exact (kit_no x2_5 x2_6 x1_S x1_n2).trans (congrArg some (by decide +kernel))
    | 1, 3, h1, h2 => by cases h1; cases h2; exact (kit_no x3_5 x3_6 x1_S x1_n3).trans (congrArg some (by decide +kernel))
    | 1, 4, h1, h2 => by cases h1; cases h2; exact (kit_no x4_5 x4_6 x1_S x1_n4).trans (congrArg some (by decide +kernel))
    | 1, 5, h1, h2 => by cases h1; cases h2; exact (kit_no x5_5 x5_6 x1_S x1_n5).trans (congrArg some (by decide +kernel))
    | 1, 6, h1, h2 => by cases h1; cases h2; exact (kit_no x6_5 x6_6 x1_S x1_n6).trans (congrArg some (by decide +kernel))
    | 1, 7, h1, h2 => by cases h1; cases h2; exact (kit_no x7_5 x7_6 x1_S x1_n7).trans (congrArg some (by decide +kernel))
    | 1, 8, h1, h2 => by cases h1; cases h2; exact (kit_no x8_5 x8_6 x1_S x1_n8).trans (congrArg some (by decide +kernel))
    | 1, 9, h1, h2 => by cases h1; cases h2; exact (kit_no x9_5 x9_6 x1_S x1_n9).trans (congrArg some (by decide +kernel))
    | 1, 10, h1, h2 => by cases h1; cases h2; exact (kit_no x10_5 x10_6 x1_S x1_n10).trans (congrArg some (by decide +kernel))
    | 1, 11, h1, h2 => by cases h1; cases h2; exact (kit_no x11_5 x11_6 x1_S x1_n11).trans (congrArg some (by decide +kernel))
    | 2, 0, h1, h2 => by cases h1; cases h2; exact (kit_no x0_5 x0_6 x2_S x2_n0).trans (congrArg some (by decide +kernel))
    | 2, 1, h1, h2 => by cases h1; cases h2; exact (kit_no x1_5 x1_6 x2_S x2_n1).trans (congrArg some (by decide +kernel))
    | 2, 2, h1, h2 => by cases h1; cases h2; exact (kit_self _).trans (congrArg some (by decide +kernel))
    | 2, 3, h1, h2 => by cases h1; cases h2; exact (kit_no x3_5 x3_6 x2_S x2_n3).trans (congrArg some (by decide +kernel))
    | 2, 4, h1, h2 => by cases h1; cases h2; exact (kit_no x4_5 x4_6 x2_S x2_n4).trans (congrArg some (by decide +kernel))
    | 2, 5, h1, h2 => by cases h1; cases h2; exact (kit_no x5_5 x5_6 x2_S x2_n5).trans (congrArg some (by decide +kernel))
    | 2, 6, h1, h2 => by cases h1; cases h2; exact (kit_no x6_5 x6_6 x2_S x2_n6).trans (congrArg some (by decide +kernel))
    | 2, 7, h1, h2 => by cases h1; cases h2; exact (kit_no x7_5 x7_6 x2_S x2_n7).trans (congrArg some (by decide +kernel))
    | 2, 8, h1, h2 => by cases h1; cases h2; exact (kit_no x8_5 x8_6 x2_S x2_n8).trans (congrArg some (by decide +kernel))
    | 2, 9, h1, h2 => by cases h1; cases h2; exact (kit_no x9_5 x9_6 x2_S x2_n9).trans (congrArg some (by decide +kernel))
    | 2, 10, h1, h2 => by cases h1; cases h2; exact (kit_no x10_5 x10_6 x2_S x2_n10).trans (congrArg some (by decide +kernel))
    | 2, 11, h1, h2 => by cases h1; cases h2; exact (kit_no x11_5 x11_6 x2_S x2_n11).trans (congrArg some (by decide +kernel))
    | 3, 0, h1, h2 => by cases h1; cases h2; exact (kit_no x0_5 x0_6 x3_S x3_n0).trans (congrArg some (by decide +kernel))
    | 3, 1, h1, h2 => by cases h1; cases h2; exact (kit_no x1_5 x1_6 x3_S x3_n1).trans (congrArg some (by decide +kernel))
    | 3, 2, h1, h2 => by cases h1; cases h2; exact (kit_no x2_5 x2_6 x3_S x3_n2).trans (congrArg some (by decide +kernel))
    | 3, 3, h1, h2 => by cases h1; cases h2; exact (kit_self _).trans (congrArg some (by decide +kernel))
    | 3, 4, h1, h2 => by cases h1; cases h2; exact (kit_no x4_5 x4_6 x3_S x3_n4).trans (congrArg some (by decide +kernel))
    | 3, 5, h1, h2 => by cases h1; cases h2; exact (kit_no x5_5 x5_6 x3_S x3_n5).trans (congrArg some (by decide +kernel))
    | 3, 6, h1, h2 => by cases h1; cases h2; exact (kit_no x6_5 x6_6 x3_S x3_n6).trans (congrArg some (by decide +kernel))
    | 3, 7, h1, h2 => by cases h1; cases h2; exact (kit_no x7_5 x7_6 x3_S x3_n7).trans (congrArg some (by decide +kernel))
    | 3, 8, h1, h2 => by cases h1; cases h2; exact (kit_no x8_5 x8_6 x3_S x3_n8).trans (congrArg some (by decide +kernel))
    | 3, 9, h1, h2 => by cases h1; cases h2; exact (kit_no x9_5 x9_6 x3_S x3_n9).trans (congrArg some (by decide +kernel))
    | 3, 10, h1, h2 => by cases h1; cases h2; exact (kit_no x10_5 x10_6 x3_S x3_n10).trans (congrArg some (by decide +kernel))
    | 3, 11, h1, h2 => by cases h1; cases h2; exact (kit_no x11_5 x11_6 x3_S x3_n11).trans (congrArg some (by decide +kernel))
    | 4, 0, h1, h2 => by cases h1; cases h2; exact (kit_no x0_5 x0_6 x4_S x4_n0).trans (congrArg some (by decide +kernel))
    | 4, 1, h1, h2 => by cases h1; cases h2; exact (kit_no x1_5 x1_6 x4_S x4_n1).trans (congrArg some (by decide +kernel))
    | 4, 2, h1, h2 => by cases h1; cases h2; exact (kit_no x2_5 x2_6 x4_S x4_n2).trans (congrArg some (by decide +kernel))
    | 4, 3, h1, h2 => by cases h1; cases h2; exact (kit_no x3_5 x3_6 x4_S x4_n3).trans (congrArg some (by decide +kernel))
    | 4, 4, h1, h2 => by cases h1; cases h2; exact (kit_self _).trans (congrArg some (by decide +kernel))
    | 4, 5, h1, h2 => by cases h1; cases h2; exact (kit_no x5_5 x5_6 x4_S x4_n5).trans (congrArg some (by decide +kernel))
    | 4, 6, h1, h2 => by cases h1; cases h2; exact (kit_no x6_5 x6_6 x4_S x4_n6).trans (congrArg some (by decide +kernel))
    | 4, 7, h1, h2 => by cases h1; cases h2; exact (kit_no x7_5 x7_6 x4_S x4_n7).trans (congrArg some (by decide +kernel))
    | 4, 8, h1, h2 => by cases h1; cases h2; exact (kit_no x8_5 x8_6 x4_S x4_n8).trans (congrArg some (by decide +kernel))
    | 4, 9, h1, h2 => by cases h1; cases h2; exact (kit_no x9_5 x9_6 x4_S x4_n9).trans (congrArg some (by decide +kernel))
    | 4, 10, h1, h2 => by cases h1; cases h2; exact (kit_no x10_5 x10_6 x4_S x4_n10).trans (congrArg some (by decide +kernel))
    | 4, 11, h1, h2 => by cases h1; cases h2; exact (kit_no x11_5 x11_6 x4_S x4_n11).trans (congrArg some (by decide +kernel))
    | 5, 0, h1, h2 => by cases h1; cases h2; exact (kit_no x0_5 x0_6 x5_S x5_n0).trans (congrArg some (by decide +kernel))
    | 5, 1, h1, h2 => by cases h1; cases h2; exact (kit_no x1_5 x1_6 x5_S x5_n1).trans (congrArg some (by decide +kernel))
    | 5, 2, h1, h2 => by cases h1; cases h2; exact (kit_no x2_5 x2_6 x5_S x5_n2).trans (congrArg some (by decide +kernel))
    | 5, 3, h1, h2 => by cases h1; cases h2; exact (kit_no x3_5 x3_6 x5_S x5_n3).trans (congrArg some (by decide +kernel))
    | 5, 4, h1, h2 => by cases h1; cases h2; exact (kit_no x4_5 x4_6 x5_S x5_n4).trans (congrArg some (by decide +kernel))
    | 5, 5, h1, h2 => by cases h1; cases h2; exact (kit_self _).trans (congrArg some (by decide +kernel))
    | 5, 6, h1, h2 => by cases h1; cases h2; exact (kit_no x6_5 x6_6 x5_S x5_n6).trans (congrArg some (by decide +kernel))
    | 5, 7, h1, h2 => by cases h1; cases h2; exact (kit_no x7_5 x7_6 x5_S x5_n7).trans (congrArg some (by decide +kernel))
    | 5, 8, h1, h2 => by cases h1; cases h2; exact (kit_no x8_5 x8_6 x5_S x5_n8).trans (congrArg some (by decide +kernel))
    | 5, 9, h1, h2 => by cases h1; cases h2; exact (kit_no x9_5 x9_6 x5_S x5_n9).trans (congrArg some (by decide +kernel))
    | 5, 10, h1, h2 => by cases h1; cases h2; exact (kit_no x10_5 x10_6 x5_S x5_n10).trans (congrArg some (by decide +kernel))
    | 5, 11, h1, h2 => by cases h1; cases h2; exact (kit_no x11_5 x11_6 x5_S x5_n11).trans (congrArg some (by decide +kernel))
    | 6, 0, h1, h2 => by cases h1; cases h2; exact (kit_no x0_5 x0_6 x6_S x6_n0).trans (congrArg some (by decide +kernel))
    | 6, 1, h1, h2 => by cases h1; cases h2; exact (kit_no x1_5 x1_6 x6_S x6_n1).trans (congrArg some (by decide +kernel))
    | 6, 2, h1, h2 => by cases h1; cases h2; exact (kit_no x2_5 x2_6 x6_S x6_n2).trans (congrArg some (by decide +kernel))
    | 6, 3, h1, h2 => by cases h1; cases h2; exact (kit_no x3_5 x3_6 x6_S x6_n3).trans (congrArg some (by decide +kernel))
    | 6, 4, h1, h2 => by cases h1; cases h2; exact (kit_no x4_5 x4_6 x6_S x6_n4).trans (congrArg some (by decide +kernel))
    | 6, 5, h1, h2 => by cases h1; cases h2; exact (kit_no x5_5 x5_6 x6_S x6_n5).trans (congrArg some (by decide +kernel))
    | 6, 6, h1, h2 => by cases h1; cases h2; exact (kit_self _).trans (congrArg some (by decide +kernel))
    | 6, 7, h1, h2 => by cases h1; cases h2; exact (kit_no x7_5 x7_6 x6_S x6_n7).trans (congrArg some (by decide +kernel))
    | 6, 8, h1, h2 => by cases h1; cases h2; exact (kit_no x8_5 x8_6 x6_S x6_n8).trans (congrArg some (by decide +kernel))
    | 6, 9, h1, h2 => by cases h1; cases h2; exact (kit_no x9_5 x9_6 x6_S x6_n9).trans (congrArg some (by decide +kernel))
    | 6, 10, h1, h2 => by cases h1; cases h2; exact (kit_no x10_5 x10_6 x6_S x6_n10).trans (congrArg some (by decide +kernel))
    | 6, 11, h1, h2 => by cases h1; cases h2; exact (kit_no x11_5 x11_6 x6_S x6_n11).trans (congrArg some (by decide +kernel))
    | 7, 0, h1, h2 => by cases h1; cases h2; exact (kit_no x0_5 x0_6 x7_S x7_n0).trans (congrArg some (by decide +kernel))
    | 7, 1, h1, h2 => by cases h1; cases h2; exact (kit_no x1_5 x1_6 x7_S x7_n1).trans (congrArg some (by decide +kernel))
    | 7, 2, h1, h2 => by cases h1; cases h2; exact (kit_no x2_5 x2_6 x7_S x7_n2).trans (congrArg some (by decide +kernel))
    | 7, 3, h1, h2 => by cases h1; cases h2; exact (kit_no x3_5 x3_6 x7_S x7_n3).trans (congrArg some (by decide +kernel))
    | 7, 4, h1, h2 => by cases h1; cases h2; exact (kit_no x4_5 x4_6 x7_S x7_n4).trans (congrArg some (by decide +kernel))
    | 7, 5, h1, h2 => by cases h1; cases h2; exact (kit_no x5_5 x5_6 x7_S x7_n5).trans (congrArg some (by decide +kernel))
    | 7, 6, h1, h2 => by cases h1; cases h2; exact (kit_no x6_5 x6_6 x7_S x7_n6).trans (congrArg some (by decide +kernel))
    | 7, 7, h1, h2 => by cases h1; cases h2; exact (kit_self _).trans (congrArg some (by decide +kernel))
    | 7, 8, h1, h2 => by cases h1; cases h2; exact (kit_no x8_5 x8_6 x7_S x7_n8).trans (congrArg some (by decide +kernel))
    | 7, 9, h1, h2 => by cases h1; cases h2; exact (kit_no x9_5 x9_6 x7_S x7_n9).trans (congrArg some (by decide +kernel))
    | 7, 10, h1, h2 => by cases h1; cases h2; exact (kit_no x10_5 x10_6 x7_S x7_n10).trans (congrArg some (by decide +kernel))
    | 7, 11, h1, h2 => by cases h1; cases h2; exact (kit_no x11_5 x11_6 x7_S x7_n11).trans (congrArg some (by decide +kernel))
    | 8, 0, h1, h2 => by cases h1; cases h2; exact (kit_no x0_5 x0_6 x8_S x8_n0).trans (congrArg some (by decide +kernel))
    | 8, 1, h1, h2 => by cases h1; cases h2; exact (kit_no x1_5 x1_6 x8_S x8_n1).trans (congrArg some (by decide +kernel))
    | 8, 2, h1, h2 => by cases h1; cases h2; exact (kit_no x2_5 x2_6 x8_S x8_n2).trans (congrArg some (by decide +kernel))
    | 8, 3, h1, h2 => by cases h1; cases h2; exact (kit_no x3_5 x3_6 x8_S x8_n3).trans (congrArg some (by decide +kernel))
    | 8, 4, h1, h2 => by cases h1; cases h2; exact (kit_no x4_5 x4_6 x8_S x8_n4).trans (congrArg some (by decide +kernel))
    | 8, 5, h1, h2 => by cases h1; cases h2; exact (kit_no x5_5 x5_6 x8_S x8_n5).trans (congrArg some (by decide +kernel))
    | 8, 6, h1, h2 => by cases h1; cases h2; exact (kit_no x6_5 x6_6 x8_S x8_n6).trans (congrArg some (by decide +kernel))
    | 8, 7, h1, h2 => by cases h1; cases h2; exact (kit_no x7_5 x7_6 x8_S x8_n7).trans (congrArg some (by decide +kernel))
    | 8, 8, h1, h2 => by cases h1; cases h2; exact (kit_self _).trans (congrArg some (by decide +kernel))
    | 8, 9, h1, h2 => by cases h1; cases h2; exact (kit_no x9_5 x9_6 x8_S x8_n9).trans (congrArg some (by decide +kernel))
    | 8, 10, h1, h2 => by cases h1; cases h2; exact (kit_no x10_5 x10_6 x8_S x8_n10).trans (congrArg some (by decide +kernel))
    | 8, 11, h1, h2 => by cases h1; cases h2; exact (kit_no x11_5 x11_6 x8_S x8_n11).trans (congrArg some (by decide +kernel))
    | 9, 0, h1, h2 => by cases h1; cases h2; exact (kit_no x0_5 x0_6 x9_S x9_n0).trans (congrArg some (by decide +kernel))
    | 9, 1, h1, h2 => by cases h1; cases h2; exact (kit_no x1_5 x1_6 x9_S x9_n1).trans (congrArg some (by decide +kernel))
    | 9, 2, h1, h2 => by cases h1; cases h2; exact (kit_no x2_5 x2_6 x9_S x9_n2).trans (congrArg some (by decide +kernel))
    | 9, 3, h1, h2 => by cases h1; cases h2; exact (kit_no x3_5 x3_6 x9_S x9_n3).trans (congrArg some (by decide +kernel))
    | 9, 4, h1, h2 => by cases h1; cases h2; exact (kit_no x4_5 x4_6 x9_S x9_n4).trans (congrArg some (by decide +kernel))
    | 9, 5, h1, h2 => by cases h1; cases h2; exact (kit_no x5_5 x5_6 x9_S x9_n5).trans (congrArg some (by decide +kernel))
    | 9, 6, h1, h2 => by cases h1; cases h2; exact (kit_no x6_5 x6_6 x9_S x9_n6).trans (congrArg some (by decide +kernel))
    | 9, 7, h1, h2 => by cases h1; cases h2; exact (kit_no x7_5 x7_6 x9_S x9_n7).trans (congrArg some (by decide +kernel))
    | 9, 8, h1, h2 => by cases h1; cases h2; exact (kit_no x8_5 x8_6 x9_S x9_n8).trans (congrArg some (by decide +kernel))
    | 9, 9, h1, h2 => by cases h1; cases h2; exact (kit_self _).trans (congrArg some (by decide +kernel))
    | 9, 10, h1, h2 => by cases h1; cases h2; exact (kit_no x10_5 x10_6 x9_S x9_n10).trans (congrArg some (by decide +kernel))
    | 9, 11, h1, h2 => by cases h1; cases h2; exact (kit_no x11_5 x11_6 x9_S x9_n11).trans (congrArg some (by decide +kernel))
    | 10, 0, h1, h2 => by cases h1; cases h2; exact (kit_no x0_5 x0_6 x10_S x10_n0).trans (congrArg some (by decide +kernel))
    | 10, 1, h1, h2 => by cases h1; cases h2; exact (kit_no x1_5 x1_6 x10_S x10_n1).trans (congrArg some (by decide +kernel))
    | 10, 2, h1, h2 => by cases h1; cases h2; exact (kit_no x2_5 x2_6 x10_S x10_n2).trans (congrArg some (by decide +kernel))
    | 10, 3, h1, h2 => by cases h1; cases h2; exact (kit_no x3_5 x3_6 x10_S x10_n3).trans (congrArg some (by decide +kernel))
    | 10, 4, h1, h2 => by cases h1; cases h2; exact (kit_no x4_5 x4_6 x10_S x10_n4).trans (congrArg some (by decide +kernel))
    | 10, 5, h1, h2 => by cases h1; cases h2; exact (kit_no x5_5 x5_6 x10_S x10_n5).trans (congrArg some (by decide +kernel))
    | 10, 6, h1, h2 => by cases h1; cases h2; exact (kit_no x6_5 x6_6 x10_S x10_n6).trans (congrArg some (by decide +kernel))
    | 10, 7, h1, h2 => by cases h1; cases h2; exact (kit_no x7_5 x7_6 x10_S x10_n7).trans (congrArg some (by decide +kernel))
    | 10, 8, h1, h2 => by cases h1; cases h2; exact (kit_no x8_5 x8_6 x10_S x10_n8).trans (congrArg some (by decide +kernel))
    | 10, 9, h1, h2 => by cases h1; cases h2; exact (kit_no x9_5 x9_6 x10_S x10_n9).trans (congrArg some (by decide +kernel))
    | 10, 10, h1, h2 => by cases h1; cases h2; exact (kit_self _).trans (congrArg some (by decide +kernel))
    | 10, 11, h1, h2 => by cases h1; cases h2; exact (kit_no x11_5 x11_6 x10_S x10_n11).trans (congrArg some (by decide +kernel))
    | 11, 0, h1, h2 => by cases h1; cases h2; exact (kit_no x0_5 x0_6 x11_S x11_n0).trans (congrArg some (by decide +kernel))
    | 11, 1, h1, h2 => by cases h1; cases h2; exact (kit_no x1_5 x1_6 x11_S x11_n1).trans (congrArg some (by decide +kernel))
    | 11, 2, h1, h2 => by cases h1; cases h2; exact (kit_no x2_5 x2_6 x11_S x11_n2).trans (congrArg some (by decide +kernel))
    | 11, 3, h1, h2 => by cases h1; cases h2; exact (kit_no x3_5 x3_6 x11_S x11_n3).trans (congrArg some (by decide +kernel))
    | 11, 4, h1, h2 => by cases h1; cases h2; exact (kit_no x4_5 x4_6 x11_S x11_n4).trans (congrArg some (by decide +kernel))
    | 11, 5, h1, h2 => by cases h1; cases h2; exact (kit_no x5_5 x5_6 x11_S x11_n5).trans (congrArg some (by decide +kernel))
    | 11, 6, h1, h2 => by cases h1; cases h2; exact (kit_no x6_5 x6_6 x11_S x11_n6).trans (congrArg some (by decide +kernel))
    | 11, 7, h1, h2 => by cases h1; cases h2; exact (kit_no x7_5 x7_6 x11_S x11_n7).trans (congrArg some (by decide +kernel))
    | 11, 8, h1, h2 => by cases h1; cases h2; exact (kit_no x8_5 x8_6 x11_S x11_n8).trans (congrArg some (by decide +kernel))
    | 11, 9, h1, h2 => by cases h1; cases h2; exact (kit_no x9_5 x9_6 x11_S x11_n9).trans (congrArg some (by decide +kernel))
    | 11, 10, h1, h2 => by cases h1; cases h2; exact (kit_no x10_5 x10_6 x11_S x11_n10).trans (congrArg some (by decide +kernel))
    | 11, 11, h1, h2 => by cases h1; cases h2; exact (kit_self _).trans (congrArg some (by decide +kernel))
    | _ + 12, _, h1, _ => by cases h1
    | _, _ + 12, _, h2 => by cases h2
  refine ⟨PySem.W.fnOf "law" "law" (defArgs (tp 22)) (defBody (tp 22)) (defScope (tp 22)) .none kV7 dc7 pm7 an7 cd7 ct7, fun s v => .of_eq rfl, fun base _ _ => ?_⟩
  exact law_ok (all_ok (es := ents) (T := tb) (gl := gld) (P := fns) (W := 100000) E chk_all rfl B G2 (by decide) (by decide +kernel) _ XX XM (by decide) XN XO 100 7 e7 fa _ rfl r7) right
end Law

end
section
set_option Elab.async false
set_option linter.all false
set_option maxRecDepth 100000
set_option maxHeartbeats 4000000
namespace Lib
open PySem Pi
local macro_rules | `(tactic| walk_at "po") => `(tactic| first
  | exact addI _ _ | exact subI _ _
  | exact gt_int _ _ | exact lt_int _ _ | exact ge_int _ _ | exact le_int _ _ | exact eq_int _ _ | exact eq_str _ _
  | exact mulR ⟨by omega, by omega⟩ | exact mulL ⟨by omega, by omega⟩ | exact modP (by omega) | exact fdivP (by omega) (by first | decide +kernel | exact log2_small (by omega))
  | exact rfl)
local macro_rules | `(tactic| walk_at "pe") => `(tactic| repeat' (first
  | exact bor_sh rfl | exact bor_ow rfl | exact ev_sh rfl | exact ev_int | exact ev_str | exact ev_bl | exact ev_non | exact evs_nil | exact eva_nil
  | (apply bor_E rfl)
  | (apply ev_bin) | (apply ev_f1) | (apply ev_f2)
  | (apply ev_ix) | (apply ev_cmp) | (apply ev_neg)
  | (apply ev_bx)
  | (apply toD_E)
  | (apply evs_cons) | (apply eva_cons)
  | assumption | walk_at "po"))
abbrev Edge := Str × Str × Str
def eD (c : Bool) (e : Edge) : D := sq c [.str e.1, .str e.2.1, .str e.2.2]
section
variable {gl : Nat → Option D} {cf : Cf} {W : Nat}
end
end Lib

end
section
set_option Elab.async false
set_option linter.all false
set_option maxRecDepth 100000
set_option maxHeartbeats 4000000
namespace Lib
open PySem Pi
local macro_rules | `(tactic| walk_at "po") => `(tactic| first
  | exact addI _ _ | exact subI _ _
  | exact gt_int _ _ | exact lt_int _ _ | exact ge_int _ _ | exact le_int _ _ | exact eq_int _ _ | exact eq_str _ _
  | exact mulR ⟨by omega, by omega⟩ | exact mulL ⟨by omega, by omega⟩ | exact modP (by omega) | exact fdivP (by omega) (by first | decide +kernel | exact log2_small (by omega))
  | exact rfl)
local macro_rules | `(tactic| walk_at "pe") => `(tactic| repeat' (first
  | exact bor_sh rfl | exact bor_ow rfl | exact ev_sh rfl | exact ev_int | exact ev_str | exact ev_bl | exact ev_non | exact evs_nil | exact eva_nil
  | (apply bor_E rfl)
  | (apply ev_bin) | (apply ev_f1) | (apply ev_f2)
  | (apply ev_ix) | (apply ev_cmp) | (apply ev_neg)
  | (apply ev_bx)
  | (apply toD_E)
  | (apply evs_cons) | (apply eva_cons)
  | assumption | walk_at "po"))
section
variable {gl : Nat → Option D} {cf : Cf} {W : Nat}
def T_l_take : Ss := (.cons (.ite (.cmp .gt (.bx 0 (.int 0)) (.int 0)) (.cons (.asg (.n 5) (.bin .mod (.f1 .int (.bx 0 (.int 0))) (.v 1))) (.cons (.stix 0 (.int 0) (.bin .fdiv (.bx 0 (.int 0)) (.v 1))) (.cons (.ret (.v 5)) .nil))) .nil) (.cons (.stix 0 (.int 2) (.bin .add (.bx 0 (.int 2)) (.int 1))) (.cons (.asg (.n 2) (.bin .mod (.f1 .int (.bin .mul (.bin .add (.bx 0 (.int 1)) (.bin .mul (.int 48271) (.bx 0 (.int 2)))) (.bin .add (.int 39373) (.bx 0 (.int 2))))) (.int 2147483647))) (.cons (.asg (.n 3) (.bin .add (.bin .mod (.f1 .int (.v 2)) (.int 40009)) (.int 7))) (.cons (.asg (.n 4) (.bin .mod (.f1 .int (.bin .mul (.bin .add (.bin .add (.v 2) (.bx 0 (.int 2))) (.bin .fdiv (.bx 0 (.int 1)) (.int 1000003))) (.v 3))) (.int 2147483629))) (.cons (.ret (.bin .mod (.f1 .int (.bin .fdiv (.bin .mod (.f1 .int (.bin .add (.bin .mul (.v 4) (.int 48271)) (.v 2))) (.int 2147483587)) (.int 64))) (.v 1))) .nil))))))
def onceV (b c : Int) : Int := (b + 48271 * c) * (39373 + c) % 2147483647
def againV (b c : Int) : Int := (onceV b c + c + b / 1000003) * (onceV b c % 40009 + 7) % 2147483629
def drawV (b c : Int) : Int := (againV b c * 48271 + onceV b c) % 2147483587 / 64
theorem take_ok (q n s : Nat) (hs : 0 < s) (hs2 : s < 2 ^ 60) (hq : q < 2 ^ 60) (st : Sto) (hb : BoxOk q st n) :
    ∃ v st', v < s ∧ out (execs gl cf W T_l_take [.rf n, .sh (.int (s : Nat)), .no, .no, .no, .no] st) = some (.d (.int (v : Nat)), st') ∧ BoxOk (q + 1) st' n ∧ st'.length = st.length := by
  obtain ⟨a, b, c, h1, h2, h3, h4⟩ := hb
  by_cases ha : 0 < a
  · refine ⟨(a % (s : Nat)).toNat, st.set n [.int (a / (s : Nat)), .int b, .int c], by have := Int.emod_lt_of_pos a (b := (s : Nat)) (by omega); have := Int.emod_nonneg a (b := (s : Nat)) (by omega); omega, ?_, ⟨_, _, _, set_get h1 _, h2, by omega, scal_set h4 n rfl⟩, by simp⟩
    have e : (((a % (s : Nat)).toNat : Nat) : Int) = a % (s : Nat) := by have := Int.emod_nonneg a (b := (s : Nat)) (by omega); omega
    rw [e]
    refine o_iteT (s := st) (tru_E (x := .bool (decide (0 < a))) ?_ (by rw [decide_eq_true ha]; rfl)) ?_
    · walk_at "pe"
    refine o_asg (x := .int (a % (s : Nat))) (s1 := st) ?_ rfl ?_
    · walk_at "pe"
    refine o_stixR (y := .int (a / (s : Nat))) (kx := .int 0) (s := st) (s1 := st) ?_ ?_ rfl h1 rfl ?_
    · walk_at "pe"
    · walk_at "pe"
    exact o_ret (ev_sh rfl)
  · have e0 : ∃ v : Nat, v < s ∧ drawV b (c + 1) % (s : Nat) = (v : Nat) := ⟨(drawV b (c + 1) % (s : Nat)).toNat, by have := Int.emod_lt_of_pos (drawV b (c + 1)) (b := (s : Nat)) (by omega); have := Int.emod_nonneg (drawV b (c + 1)) (b := (s : Nat)) (by omega); omega, by have := Int.emod_nonneg (drawV b (c + 1)) (b := (s : Nat)) (by omega); omega⟩
    obtain ⟨v, hv, ev⟩ := e0
    refine ⟨v, st.set n [.int a, .int b, .int (c + 1)], hv, ?_, ⟨_, _, _, set_get h1 _, by omega, by omega, scal_set h4 n rfl⟩, by simp⟩
    rw [← ev]
    have h1' := set_get h1 [.int a, .int b, .int (c + 1)]
    refine o_iteF (s := st) (tru_E (x := .bool (decide (0 < a))) ?_ (by rw [decide_eq_false ha]; rfl)) ?_
    · walk_at "pe"
    refine o_stixR (y := .int (c + 1)) (kx := .int 2) (s := st) (s1 := st) ?_ ?_ rfl h1 rfl ?_
    · walk_at "pe"
    · walk_at "pe"
    show out (execs _ _ _ _ _ (st.set n [.int a, .int b, .int (c + 1)])) = _
    generalize st.set n [.int a, .int b, .int (c + 1)] = st' at h1' ⊢
    have hc : -(2 ^ 64) < c + 1 ∧ c + 1 < 2 ^ 63 := ⟨by omega, by omega⟩
    refine o_asg (x := .int (onceV b (c + 1))) (s1 := st') ?_ rfl ?_
    · walk_at "pe"
    have ho : 0 ≤ onceV b (c + 1) ∧ onceV b (c + 1) < 2147483647 := ⟨Int.emod_nonneg _ (by decide), Int.emod_lt_of_pos _ (by decide)⟩
    refine o_asg (x := .int (onceV b (c + 1) % 40009 + 7)) (s1 := st') ?_ rfl ?_
    · walk_at "pe"
    have hf : -(2 ^ 64) < onceV b (c + 1) % 40009 + 7 ∧ onceV b (c + 1) % 40009 + 7 < 2 ^ 63 := ⟨by omega, by omega⟩
    refine o_asg (x := .int (againV b (c + 1))) (s1 := st') ?_ rfl ?_
    · walk_at "pe"
    refine o_ret ?_
    walk_at "pe"
def Takes (cf : Cf) (c : Nat) : Prop := ∀ (q n s : Nat), 0 < s → s < 2 ^ 60 → q < 2 ^ 60 → ∀ st : Sto, BoxOk q st n →
  ∃ v st', v < s ∧ cf c [.rf n, .d (.int (s : Nat))] st = some (.d (.int (v : Nat)), st') ∧ BoxOk (q + 1) st' n ∧ st'.length = st.length
def T_l_of (c_l_take : Nat) : Ss := (.cons (.ret (.ix (.v 1) (.call c_l_take (.cons (.v 0) (.cons (.f1 .len (.v 1)) .nil))))) .nil)
theorem of_ok {c : Nat} (ht : Takes cf c) (b : Bool) (xs : List D) (h0 : 0 < xs.length) (hl : xs.length < 2 ^ 60) (q n : Nat) (hq : q < 2 ^ 60) (st : Sto) (hb : BoxOk q st n) :
    ∃ x st', x ∈ xs ∧ out (execs gl cf W (T_l_of c) [.rf n, .sh (sq b xs)] st) = some (.d x, st') ∧ BoxOk (q + 1) st' n ∧ st'.length = st.length := by
  obtain ⟨v, st', h1, h2, h3, h4⟩ := ht q n xs.length h0 hl hq st hb
  have hx : xs[v]? = some (xs[v]'h1) := List.getElem?_eq_getElem h1
  refine ⟨xs[v]'h1, st', List.getElem_mem _, o_ret (ev_ix (bor_sh rfl) (bor_E rfl (ev_call (eva_cons (ev_rfQ rfl) (eva_cons (ev_f1 (bor_sh rfl) (len_sq _ _)) eva_nil)) h2) rfl) ?_), h3, h4⟩
  cases b <;> exact atI_nat hx
end
end Lib

end
section
set_option Elab.async false
set_option linter.all false
set_option maxRecDepth 100000
set_option maxHeartbeats 4000000
namespace Law
open PySem Pi Lib
theorem s_take (k : Nat) : Takes (run gld fns 100000 (k + 1)) 1 := fun q n s h1 h2 h3 st hb => take_ok (gl := gld) (cf := run gld fns 100000 k) (W := 100000) q n s h1 h2 h3 st hb
theorem s_of (k : Nat) (xs : List D) (h1 : 0 < xs.length) (h2 : xs.length < 2 ^ 60) (q n : Nat) (hq : q < 2 ^ 60) (st : Sto) (hb : BoxOk q st n) : ∃ x st', x ∈ xs ∧ run gld fns 100000 (k + 2) 3 [.rf n, .d (.list xs)] st = some (.d x, st') ∧ BoxOk (q + 1) st' n ∧ st'.length = st.length :=
  of_ok (gl := gld) (cf := run gld fns 100000 (k + 1)) (W := 100000) (s_take k) false xs h1 h2 q n hq st hb
theorem s_same (k : Nat) (x : D) (h : fine k x = true) (st : Sto) : run gld fns 100000 k 4 [.d x, .d x] st = some (.d (.bool true), st) := same_refl (P := fns) (f := 4) rfl k x st h
abbrev Wd : Nat := 100000
abbrev cf9 : Cf := run gld fns Wd 98
def tlS : Ss → Ss
  | .cons _ s => s
  | s => s
def toL : Ss → List S
  | .cons s r => s :: toL r
  | _ => []
def ofL : List S → Ss
  | [] => .nil
  | s :: l => .cons s (ofL l)
theorem exs_app : ∀ (l : List S) (s : S) {env e1 : Ev} {st s1 : Sto}, execs gld cf9 Wd (ofL l) env st = some (.nx, e1, s1) → execs gld cf9 Wd (ofL (l ++ [s])) env st = execs gld cf9 Wd (.cons s .nil) e1 s1
  | [], s, env, e1, st, s1, h => by cases h; rfl
  | a :: l, s, env, e1, st, s1, h => by
    have h : sbnd (exec gld cf9 Wd a env st) (fun e1 s1 => execs gld cf9 Wd (ofL l) e1 s1) = some (.nx, e1, s1) := h
    show sbnd (exec gld cf9 Wd a env st) (fun e1 s1 => execs gld cf9 Wd (ofL (l ++ [s])) e1 s1) = _
    cases hq : exec gld cf9 Wd a env st with
    | none => rw [hq] at h; cases h
    | some p =>
      obtain ⟨fl, e2, s2⟩ := p
      rw [hq] at h
      cases fl with
      | nx => exact exs_app l s h
      | bk => cases h
      | ct => cases h
      | rt w => cases h
def r6 : Ss := tlS (tlS b6)
def l6 : List S := (toL r6).dropLast
def due0 : Es := .cons (.v 3) (.cons (.bin .add (.v 4) (.lst (.cons (.tup (.cons (.int 1) (.cons (.int 2) .nil))) (.cons (.v 6) (.cons (.v 6) .nil))))) .nil)
theorem r6_is : r6 = ofL (l6 ++ [.ret (.call 4 due0)]) := by kernel_rfl
abbrev env0 (n : Nat) (f : Int) (t : Str) (l : D) : Ev := [.rf n, .sh l, .no, .no, .no, .sh (.int f), .sh (.str t), .no, .no, .no]
def evF (n : Nat) (f : Int) (t : Str) (l : D) (st : Sto) : Ev := match execs gld cf9 Wd (ofL l6) (env0 n f t l) st with
  | some (_, e, _) => e
  | none => []
theorem run_a (n : Nat) (f : Int) (t : Str) (l : D) (st : Sto) : execs gld cf9 Wd (ofL l6) (env0 n f t l) st = some (.nx, evF n f t l st, st) := by kernel_rfl
def gotD (f : Int) (t : Str) (l : D) : D := .list [.int f, .int f, .str t, l, .str t, .int f, .int f, .int f, .str t, .str t, .int 7, .int (-1), .str "b", .tuple [.str "x", .str "1", .str "x"], .str t, .int 0, .int (10 ^ 30), .tuple [.int 1, .int 2], .str t, .str t]
theorem run_b (n : Nat) (f : Int) (t : Str) (l : D) (st : Sto) : eva gld cf9 due0 (evF n f t l st) st = some ([.d (gotD f t l), .d (gotD f t l)], st) := by kernel_rfl
end Law

end
section
set_option Elab.async false
set_option linter.all false
set_option maxRecDepth 100000
set_option maxHeartbeats 4000000
namespace Law
open PySem Pi Lib
abbrev tgs : List D := [.str "a", .str "ants", .str "abcdefgh", .str "zz"]
abbrev lns : List D := [.tuple [.str "a", .str "0", .str "b"], .tuple [.str "a", .str "01", .str "a"]]
def eT : E := .lst (.cons (.str "a") (.cons (.str "ants") (.cons (.str "abcdefgh") (.cons (.str "zz") .nil))))
def eL : E := .lst (.cons (.tup (.cons (.str "a") (.cons (.str "0") (.cons (.str "b") .nil)))) (.cons (.tup (.cons (.str "a") (.cons (.str "01") (.cons (.str "a") .nil)))) .nil))
theorem b6_is : b6 = .cons (.asg (.t (.cons (.n 5) (.cons (.n 6) .nil))) (.tup (.cons (.bin .sub (.call 1 (.cons (.v 0) (.cons (.bin .pow (.int 10) (.int 9)) .nil))) (.bin .mul (.int 5) (.bin .pow (.int 10) (.int 8)))) (.cons (.call 3 (.cons (.v 0) (.cons eT .nil))) .nil)))) (.cons (.asg (.n 1) (.call 3 (.cons (.v 0) (.cons eL .nil)))) r6) := by kernel_rfl
theorem fine_got (f : Int) (t : Str) (l : D) (h : fine 5 l = true) : fine 6 (gotD f t l) = true := by
  unfold gotD
  simp only [fine, List.all_cons, List.all_nil, h, Bool.and_true, Bool.true_and, List.length_cons, List.length_nil]
  exact rfl
theorem right_ok (n : Nat) (st : Sto) (hb : BoxOk 0 st n) : ∃ st', run gld fns 100000 99 6 [.rf n] st = some (.d (.bool true), st') ∧ scalS st' = true := by
  obtain ⟨v, s1, a1, a2, a3, a4⟩ := s_take 97 0 n 1000000000 (by decide) (by decide) (by decide) st hb
  obtain ⟨t, s2, b1, b2, b3, b4⟩ := s_of 96 tgs (by decide) (by decide) 1 n (by decide) s1 a3
  obtain ⟨l, s3, c1, c2, c3, c4⟩ := s_of 96 lns (by decide) (by decide) 2 n (by decide) s2 b3
  obtain ⟨t, rfl⟩ : ∃ t', t = .str t' := by
    simp only [List.mem_cons, List.not_mem_nil, or_false] at b1
    rcases b1 with rfl | rfl | rfl | rfl <;> exact ⟨_, rfl⟩
  have hl : fine 5 l = true := by
    simp only [List.mem_cons, List.not_mem_nil, or_false] at c1
    rcases c1 with rfl | rfl <;> rfl
  have hs3 : scalS s3 = true := by
    obtain ⟨_, _, _, _, _, _, h⟩ := c3
    exact h
  refine ⟨s3, ?_, hs3⟩
  show out (execs gld cf9 Wd b6 [.rf n, .no, .no, .no, .no, .no, .no, .no, .no, .no] st) = _
  rw [b6_is]
  have hpow : ∀ (e : Ev) (s : Sto), ev gld cf9 (.bin .pow (.int 10) (.int 9)) e s = some (.d (.int ((1000000000 : Nat) : Int)), s) := fun e s => by kernel_rfl
  have hmul : ∀ (e : Ev) (s : Sto), ev gld cf9 (.bin .mul (.int 5) (.bin .pow (.int 10) (.int 8))) e s = some (.d (.int 500000000), s) := fun e s => by kernel_rfl
  have hT : ∀ (e : Ev) (s : Sto), ev gld cf9 eT e s = some (.fr (.list tgs), s) := fun e s => by kernel_rfl
  have hL : ∀ (e : Ev) (s : Sto), ev gld cf9 eL e s = some (.fr (.list lns), s) := fun e s => by kernel_rfl
  refine o_asg (x := .tuple [.int ((v : Int) - 500000000), .str t]) (s1 := s2) (toD_E (ev_tup (evs_cons (toD_E (ev_bin (bor_E rfl (ev_call (eva_cons (ev_rfQ rfl) (eva_cons (hpow _ _) eva_nil)) a2) rfl) (bor_E rfl (hmul _ _) rfl) (subI _ _)) rfl) (evs_cons (toD_E (ev_call (eva_cons (ev_rfQ rfl) (eva_cons (hT _ _) eva_nil)) b2) rfl) evs_nil)) (show (2 : Nat) ≤ 16777216 by decide)) rfl) rfl ?_
  refine o_asg (x := l) (s1 := s3) (toD_E (ev_call (eva_cons (ev_rfQ rfl) (eva_cons (hL _ _) eva_nil)) c2) rfl) rfl ?_
  show out (execs gld cf9 Wd r6 (env0 n ((v : Int) - 500000000) t l) s3) = _
  rw [r6_is, exs_app l6 _ (run_a _ _ _ _ _)]
  exact o_ret (ev_call (run_b _ _ _ _ _) (run_mono (by decide : 6 ≤ 98) _ _ _ _ (s_same 6 _ (fine_got _ _ _ hl) s3)))
theorem all_ok {cf : Cf} {x : D} (cs : List Int) (hcs : cs.length ≤ 63) (hbx : ∀ j, j < cs.length → ∀ s : Sto, ∃ a b : Int, cf 0 [.d (.list (cs.map .int)), .d (.int (j : Nat))] s = some (.rf s.length, s ++ [[.int a, .int b, .int 0]]))
    (hr : ∀ n st, BoxOk 0 st n → ∃ st', cf 6 [.rf n] st = some (.d (.bool true), st') ∧ scalS st' = true) :
    ∃ st, ev gld cf (.f1 .all (.lc [2] (.call 6 (.cons (.call 0 (.cons (.v 1) (.cons (.v 2) .nil))) .nil)) (.n 2) (.rng1 (.f1 .len (.v 1))) .no)) [.sh x, .sh (.list (cs.map .int)), .no] [] = some (.d (.bool true), st) := by
  obtain ⟨s2, h1, h2⟩ := all_true (gl := gld) (cf := cf) (vs := [2]) (e := .call 6 (.cons (.call 0 (.cons (.v 1) (.cons (.v 2) .nil))) .nil)) (t := .n 2) (it := .rng1 (.f1 .len (.v 1))) (c := .no) (env := [.sh x, .sh (.list (cs.map .int)), .no]) (st := []) (s := [])
    (xs := (List.range cs.length).map fun i => .int ((i : Nat) : Int)) (fun _ s => scalS s = true)
    (evi_rng1 (bor_E rfl (ev_f1 (bor_sh rfl) (show some (Vl.d (.int ((cs.map PyData.int).length : Nat))) = _ by rw [List.length_map])) rfl) (by show _ ≤ 16777216; omega)) rfl (fun pre y post s e hs => by
      have hlen := congrArg List.length e
      rw [List.length_map, List.length_range, List.length_append, List.length_cons] at hlen
      have hx : y = .int ((pre.length : Nat) : Int) := by
        have h1 := congrArg (fun l => l[pre.length]?) e
        simp only [List.getElem?_append_right (Nat.le_refl _), Nat.sub_self, List.getElem?_cons_zero, List.getElem?_map, List.getElem?_range (show pre.length < cs.length by omega)] at h1
        exact (Option.some.inj h1).symm
      subst hx
      obtain ⟨a, b, hb⟩ := hbx pre.length (by omega) s
      obtain ⟨s3, r1, r2⟩ := hr s.length (s ++ [[.int a, .int b, .int 0]]) (box_new hs)
      exact ⟨[.sh x, .sh (.list (cs.map .int)), .sh (.int (pre.length : Nat))], s3, rfl, rfl, toD_E (ev_call (eva_cons (ev_call (eva_cons (ev_sh rfl) (eva_cons (ev_sh rfl) eva_nil)) hb) eva_nil) r1) rfl, r2⟩) (by rw [List.length_map, List.length_range]; show _ ≤ 16777216; omega)
  exact ⟨s2, h1⟩
theorem right : ∀ ns : List Int, ns.length ≤ 63 → ∃ st, run gld fns 100000 100 7 [.d (.list (ns.map .int))] [] = some (.d (.bool true), st) := fun ns hn => by
  obtain ⟨cs, c1, c2, c3⟩ := cells_body (gl := gld) (cf := run gld fns 100000 98) (W := 100000) ns 3 (by decide) (by decide) []
  obtain ⟨s2, h1⟩ := all_ok (cf := run gld fns 100000 99) (x := .list (ns.map .int)) cs (Nat.le_trans c2 (by decide)) (fun j hj s => box_body (gl := gld) (cf := run gld fns 100000 98) (W := 100000) 93300 cs j hj s) right_ok
  refine ⟨s2, ?_⟩
  show out (execs gld (run gld fns 100000 99) 100000 b7 [.sh (.list (ns.map .int)), .no, .no] []) = _
  refine o_asg (x := .list (cs.map .int)) (s1 := []) (toD_E (ev_call (eva_cons (ev_sh rfl) (eva_cons ev_int eva_nil)) c3) rfl) rfl ?_
  exact o_ret h1
end Law

end
set_option Elab.async false
set_option linter.all false
set_option maxRecDepth 100000
open PySem PySem.W PyProof.Rows
set_option maxHeartbeats 0 in
theorem PySem.Challenge.cw_splitrules_k00_errors_holds : PySem.Challenge.rw_splitrules_k00_errors.Holds := by
  w_on; o_law; k_head; (case hw => w_witness2)
  k_fill
  refine L2.walk_of (l := PySem.Challenge.rw_splitrules_k00_errors) (n := 63) (k := 100) (x := "_law_script") (CX := fun _ => L2.CX0) (sp := fun w => (fun vs H Q _ => ∃ (a : Addr) (ns : List Int), vs = [.ref a] ∧ L2.SqL _ H a (ns.map L2.V.int) ∧ ns.length ≤ 63 ∧ ∀ H', Q (.bl true) H')) rfl (by decide) rfl ⟨rfl, by decide, by decide⟩ (fun w h Y => PySem.W.kIn_of Y) ?F (fun _ _ a ns hl _ hS => ⟨a, ns, rfl, hS, hl, fun _ => rfl⟩) (fun _ _ _ _ _ h => h)
  case F =>
    intro w mg fa h KX G hmg
    refine' Law.all_mk Law.right KX G hmg ?a0 ?l0 ?d0 ?k0 ?a1 ?l1 ?d1 ?k1 ?a2 ?l2 ?d2 ?k2 ?a3 ?l3 ?d3 ?k3 ?a4 ?l4 ?d4 ?k4 ?a5 ?l5 ?d5 ?k5 ?a6 ?l6 ?d6 ?k6 ?a7 ?l7 ?d7 ?k7 ?z0 ?z1 ?z2 ?z3 ?z4 ?z5 ?z6 ?z7 ?z8 ?z9 ?z10 ?z11 ?z12 ?re1 ?re2 ?re3 ?x0_1 ?x0_2 ?x0_3 ?x0_4 ?x0_5 ?x0_6 ?x0_7 ?x0_8 ?x0_9 ?x0_10 ?x0l ?x0d ?x0k ?x0_14 ?x0_15 ?x0_16 ?x0_17 ?x0_18 ?x0_19 ?x0_20 ?x0_V ?x0_S ?x0_B ?x0_n1 ?x0_n2 ?x0_n3 ?x0_n4 ?x0_n5 ?x0_n6 ?x0_n7 ?x0_n8 ?x0_n9 ?x0_n10 ?x0_n11 ?x1_1 ?x1_2 ?x1_3 ?x1_4 ?x1_5 ?x1_6 ?x1_7 ?x1_8 ?x1_9 ?x1_10 ?x1l ?x1d ?x1k ?x1_14 ?x1_15 ?x1_16 ?x1_17 ?x1_18 ?x1_19 ?x1_20 ?x1_V ?x1_S ?x1_B ?x1_n0 ?x1_n2 ?x1_n3 ?x1_n4 ?x1_n5 ?x1_n6 ?x1_n7 ?x1_n8 ?x1_n9 ?x1_n10 ?x1_n11 ?x2_1 ?x2_2 ?x2_3 ?x2_4 ?x2_5 ?x2_6 ?x2_7 ?x2_8 ?x2_9 ?x2_10 ?x2l ?x2d ?x2k ?x2_14 ?x2_15 ?x2_16 ?x2_17 ?x2_18 ?x2_19 ?x2_20 ?x2_V ?x2_S ?x2_B ?x2_n0 ?x2_n1 ?x2_n3 ?x2_n4 ?x2_n5 ?x2_n6 ?x2_n7 ?x2_n8 ?x2_n9 ?x2_n10 ?x2_n11 ?x3_1 ?x3_2 ?x3_3 ?x3_4 ?x3_5 ?x3_6 ?x3_7 ?x3_8 ?x3_9 ?x3_10 ?x3l ?x3d ?x3k ?x3_14 ?x3_15 ?x3_16 ?x3_17 ?x3_18 ?x3_19 ?x3_20 ?x3_V ?x3_S ?x3_B ?x3_n0 ?x3_n1 ?x3_n2 ?x3_n4 ?x3_n5 ?x3_n6 ?x3_n7 ?x3_n8 ?x3_n9 ?x3_n10 ?x3_n11 ?x4_1 ?x4_2 ?x4_3 ?x4_4 ?x4_5 ?x4_6 ?x4_7 ?x4_8 ?x4_9 ?x4_10 ?x4l ?x4d ?x4k ?x4_14 ?x4_15 ?x4_16 ?x4_17 ?x4_18 ?x4_19 ?x4_20 ?x4_V ?x4_S ?x4_B ?x4_n0 ?x4_n1 ?x4_n2 ?x4_n3 ?x4_n5 ?x4_n6 ?x4_n7 ?x4_n8 ?x4_n9 ?x4_n10 ?x4_n11 ?x5_1 ?x5_2 ?x5_3 ?x5_4 ?x5_5 ?x5_6 ?x5_7 ?x5_8 ?x5_9 ?x5_10 ?x5l ?x5d ?x5k ?x5_14 ?x5_15 ?x5_16 ?x5_17 ?x5_18 ?x5_19 ?x5_20 ?x5_V ?x5_S ?x5_B ?x5_n0 ?x5_n1 ?x5_n2 ?x5_n3 ?x5_n4 ?x5_n6 ?x5_n7 ?x5_n8 ?x5_n9 ?x5_n10 ?x5_n11 ?x6_1 ?x6_2 ?x6_3 ?x6_4 ?x6_5 ?x6_6 ?x6_7 ?x6_8 ?x6_9 ?x6_10 ?x6l ?x6d ?x6k ?x6_14 ?x6_15 ?x6_16 ?x6_17 ?x6_18 ?x6_19 ?x6_20 ?x6_V ?x6_S ?x6_B ?x6_n0 ?x6_n1 ?x6_n2 ?x6_n3 ?x6_n4 ?x6_n5 ?x6_n7 ?x6_n8 ?x6_n9 ?x6_n10 ?x6_n11 ?x7_1 ?x7_2 ?x7_3 ?x7_4 ?x7_5 ?x7_6 ?x7_7 ?x7_8 ?x7_9 ?x7_10 ?x7l ?x7d ?x7k ?x7_14 ?x7_15 ?x7_16 ?x7_17 ?x7_18 ?x7_19 ?x7_20 ?x7_V ?x7_S ?x7_B ?x7_n0 ?x7_n1 ?x7_n2 ?x7_n3 ?x7_n4 ?x7_n5 ?x7_n6 ?x7_n8 ?x7_n9 ?x7_n10 ?x7_n11 ?x8_1 ?x8_2 ?x8_3 ?x8_4 ?x8_5 ?x8_6 ?x8_7 ?x8_8 ?x8_9 ?x8_10 ?x8l ?x8d ?x8k ?x8_14 ?x8_15 ?x8_16 ?x8_17 ?x8_18 ?x8_19 ?x8_20 ?x8_V ?x8_S ?x8_B ?x8_n0 ?x8_n1 ?x8_n2 ?x8_n3 ?x8_n4 ?x8_n5 ?x8_n6 ?x8_n7 ?x8_n9 ?x8_n10 ?x8_n11 ?x9_1 ?x9_2 ?x9_3 ?x9_4 ?x9_5 ?x9_6 ?x9_7 ?x9_8 ?x9_9 ?x9_10 ?x9l ?x9d ?x9k ?x9_14 ?x9_15 ?x9_16 ?x9_17 ?x9_18 ?x9_19 ?x9_20 ?x9_V ?x9_S ?x9_B ?x9_n0 ?x9_n1 ?x9_n2 ?x9_n3 ?x9_n4 ?x9_n5 ?x9_n6 ?x9_n7 ?x9_n8 ?x9_n10 ?x9_n11 ?x10_1 ?x10_2 ?x10_3 ?x10_4 ?x10_5 ?x10_6 ?x10_7 ?x10_8 ?x10_9 ?x10_10 ?x10l ?x10d ?x10k ?x10_14 ?x10_15 ?x10_16 ?x10_17 ?x10_18 ?x10_19 ?x10_20 ?x10_V ?x10_S ?x10_B ?x10_n0 ?x10_n1 ?x10_n2 ?x10_n3 ?x10_n4 ?x10_n5 ?x10_n6 ?x10_n7 ?x10_n8 ?x10_n9 ?x10_n11 ?x11_1 ?x11_2 ?x11_3 ?x11_4 ?x11_5 ?x11_6 ?x11_7 ?x11_8 ?x11_9 ?x11_10 ?x11l ?x11d ?x11k ?x11_14 ?x11_15 ?x11_16 ?x11_17 ?x11_18 ?x11_19 ?x11_20 ?x11_V ?x11_S ?x11_B ?x11_n0 ?x11_n1 ?x11_n2 ?x11_n3 ?x11_n4 ?x11_n5 ?x11_n6 ?x11_n7 ?x11_n8 ?x11_n9 ?x11_n10
    (case a0 => k_is)
    (case l0 => k_is)
    (case d0 => k_is)
    (case k0 => k_is)
    (case a1 => k_is)
    (case l1 => k_is)
    (case d1 => k_is)
    (case k1 => k_is)
    (case a2 => k_is)
    (case l2 => k_is)
    (case d2 => k_is)
    (case k2 => k_is)
    (case a3 => k_is)
    (case l3 => k_is)
    (case d3 => k_is)
    (case k3 => k_is)
    (case a4 => k_is)
    (case l4 => k_is)
    (case d4 => k_is)
    (case k4 => k_is)
    (case a5 => k_is)
    (case l5 => k_is)
    (case d5 => k_is)
    (case k5 => k_is)
    (case a6 => k_is)
    (case l6 => k_is)
    (case d6 => k_is)
    (case k6 => k_is)
    (case a7 => k_is)
    (case l7 => k_is)
    (case d7 => k_is)
    (case k7 => k_is)
    (case z0 => k_is)
    (case z1 => k_is)
    (case z2 => k_is)
    (case z3 => k_is)
    (case z4 => k_is)
    (case z5 => k_is)
    (case z6 => k_is)
    (case z7 => k_is)
    (case z8 => k_is)
    (case z9 => k_is)
    (case z10 => k_is)
    (case z11 => k_is)
    (case z12 => k_is)
    (case re1 => k_is)
    (case re2 => k_is)
    (case re3 => k_is)
    (case x0_1 => k_is)
    (case x0_2 => k_is)
    (case x0_3 => rfl)
    (case x0_4 => k_is)
    (case x0_5 => k_is)
    (case x0_6 => k_is)
    (case x0_7 => k_is)
    (case x0_8 => k_is)
    (case x0_9 => k_is)
    (case x0_10 => k_is)
    (case x0l => k_is)
    (case x0d => k_is)
    (case x0k => k_is)
    (case x0_14 => k_is)
    (case x0_15 => k_is)
    (case x0_16 => k_is)
    (case x0_17 => k_is)
    (case x0_18 => k_is)
    (case x0_19 => k_is)
    (case x0_20 => k_is)
    (case x0_V => k_is)
    (case x0_S => k_is)
    (case x0_B => k_is)
    (case x1_1 => k_is)
    (case x1_2 => k_is)
    (case x1_3 => rfl)
    (case x1_4 => k_is)
    (case x1_5 => k_is)
    (case x1_6 => k_is)
    (case x1_7 => k_is)
    (case x1_8 => k_is)
    (case x1_9 => k_is)
    (case x1_10 => k_is)
    (case x1l => k_is)
    (case x1d => k_is)
    (case x1k => k_is)
    (case x1_14 => k_is)
    (case x1_15 => k_is)
    (case x1_16 => k_is)
    (case x1_17 => k_is)
    (case x1_18 => k_is)
    (case x1_19 => k_is)
    (case x1_20 => k_is)
    (case x1_V => k_is)
    (case x1_S => k_is)
    (case x1_B => k_is)
    (case x2_1 => k_is)
    (case x2_2 => k_is)
    (case x2_3 => rfl)
    (case x2_4 => k_is)
    (case x2_5 => k_is)
    (case x2_6 => k_is)
    (case x2_7 => k_is)
    (case x2_8 => k_is)
    (case x2_9 => k_is)
    (case x2_10 => k_is)
    (case x2l => k_is)
    (case x2d => k_is)
    (case x2k => k_is)
    (case x2_14 => k_is)
    (case x2_15 => k_is)
    (case x2_16 => k_is)
    (case x2_17 => k_is)
    (case x2_18 => k_is)
    (case x2_19 => k_is)
    (case x2_20 => k_is)
    (case x2_V => k_is)
    (case x2_S => k_is)
    (case x2_B => k_is)
    (case x3_1 => k_is)
    (case x3_2 => k_is)
    (case x3_3 => rfl)
    (case x3_4 => k_is)
    (case x3_5 => k_is)
    (case x3_6 => k_is)
    (case x3_7 => k_is)
    (case x3_8 => k_is)
    (case x3_9 => k_is)
    (case x3_10 => k_is)
    (case x3l => k_is)
    (case x3d => k_is)
    (case x3k => k_is)
    (case x3_14 => k_is)
    (case x3_15 => k_is)
    (case x3_16 => k_is)
    (case x3_17 => k_is)
    (case x3_18 => k_is)
    (case x3_19 => k_is)
    (case x3_20 => k_is)
    (case x3_V => k_is)
    (case x3_S => k_is)
    (case x3_B => k_is)
    (case x4_1 => k_is)
    (case x4_2 => k_is)
    (case x4_3 => rfl)
    (case x4_4 => k_is)
    (case x4_5 => k_is)
    (case x4_6 => k_is)
    (case x4_7 => k_is)
    (case x4_8 => k_is)
    (case x4_9 => k_is)
    (case x4_10 => k_is)
    (case x4l => k_is)
    (case x4d => k_is)
    (case x4k => k_is)
    (case x4_14 => k_is)
    (case x4_15 => k_is)
    (case x4_16 => k_is)
    (case x4_17 => k_is)
    (case x4_18 => k_is)
    (case x4_19 => k_is)
    (case x4_20 => k_is)
    (case x4_V => k_is)
    (case x4_S => k_is)
    (case x4_B => k_is)
    (case x5_1 => k_is)
    (case x5_2 => k_is)
    (case x5_3 => rfl)
    (case x5_4 => k_is)
    (case x5_5 => k_is)
    (case x5_6 => k_is)
    (case x5_7 => k_is)
    (case x5_8 => k_is)
    (case x5_9 => k_is)
    (case x5_10 => k_is)
    (case x5l => k_is)
    (case x5d => k_is)
    (case x5k => k_is)
    (case x5_14 => k_is)
    (case x5_15 => k_is)
    (case x5_16 => k_is)
    (case x5_17 => k_is)
    (case x5_18 => k_is)
    (case x5_19 => k_is)
    (case x5_20 => k_is)
    (case x5_V => k_is)
    (case x5_S => k_is)
    (case x5_B => k_is)
    (case x6_1 => k_is)
    (case x6_2 => k_is)
    (case x6_3 => rfl)
    (case x6_4 => k_is)
    (case x6_5 => k_is)
    (case x6_6 => k_is)
    (case x6_7 => k_is)
    (case x6_8 => k_is)
    (case x6_9 => k_is)
    (case x6_10 => k_is)
    (case x6l => k_is)
    (case x6d => k_is)
    (case x6k => k_is)
    (case x6_14 => k_is)
    (case x6_15 => k_is)
    (case x6_16 => k_is)
    (case x6_17 => k_is)
    (case x6_18 => k_is)
    (case x6_19 => k_is)
    (case x6_20 => k_is)
    (case x6_V => k_is)
    (case x6_S => k_is)
    (case x6_B => k_is)
    (case x7_1 => k_is)
    (case x7_2 => k_is)
    (case x7_3 => rfl)
    (case x7_4 => k_is)
    (case x7_5 => k_is)
    (case x7_6 => k_is)
    (case x7_7 => k_is)
    (case x7_8 => k_is)
    (case x7_9 => k_is)
    (case x7_10 => k_is)
    (case x7l => k_is)
    (case x7d => k_is)
    (case x7k => k_is)
    (case x7_14 => k_is)
    (case x7_15 => k_is)
    (case x7_16 => k_is)
    (case x7_17 => k_is)
    (case x7_18 => k_is)
    (case x7_19 => k_is)
    (case x7_20 => k_is)
    (case x7_V => k_is)
    (case x7_S => k_is)
    (case x7_B => k_is)
    (case x8_1 => k_is)
    (case x8_2 => k_is)
    (case x8_3 => rfl)
    (case x8_4 => k_is)
    (case x8_5 => k_is)
    (case x8_6 => k_is)
    (case x8_7 => k_is)
    (case x8_8 => k_is)
    (case x8_9 => k_is)
    (case x8_10 => k_is)
    (case x8l => k_is)
    (case x8d => k_is)
    (case x8k => k_is)
    (case x8_14 => k_is)
    (case x8_15 => k_is)
    (case x8_16 => k_is)
    (case x8_17 => k_is)
    (case x8_18 => k_is)
    (case x8_19 => k_is)
    (case x8_20 => k_is)
    (case x8_V => k_is)
    (case x8_S => k_is)
    (case x8_B => k_is)
    (case x9_1 => k_is)
    (case x9_2 => k_is)
    (case x9_3 => rfl)
    (case x9_4 => k_is)
    (case x9_5 => k_is)
    (case x9_6 => k_is)
    (case x9_7 => k_is)
    (case x9_8 => k_is)
    (case x9_9 => k_is)
    (case x9_10 => k_is)
    (case x9l => k_is)
    (case x9d => k_is)
    (case x9k => k_is)
    (case x9_14 => k_is)
    (case x9_15 => k_is)
    (case x9_16 => k_is)
    (case x9_17 => k_is)
    (case x9_18 => k_is)
    (case x9_19 => k_is)
    (case x9_20 => k_is)
    (case x9_V => k_is)
    (case x9_S => k_is)
    (case x9_B => k_is)
    (case x10_1 => k_is)
    (case x10_2 => k_is)
    (case x10_3 => rfl)
    (case x10_4 => k_is)
    (case x10_5 => k_is)
    (case x10_6 => k_is)
    (case x10_7 => k_is)
    (case x10_8 => k_is)
    (case x10_9 => k_is)
    (case x10_10 => k_is)
    (case x10l => k_is)
    (case x10d => k_is)
    (case x10k => k_is)
    (case x10_14 => k_is)
    (case x10_15 => k_is)
    (case x10_16 => k_is)
    (case x10_17 => k_is)
    (case x10_18 => k_is)
    (case x10_19 => k_is)
    (case x10_20 => k_is)
    (case x10_V => k_is)
    (case x10_S => k_is)
    (case x10_B => k_is)
    (case x11_1 => k_is)
    (case x11_2 => k_is)
    (case x11_3 => rfl)
    (case x11_4 => k_is)
    (case x11_5 => k_is)
    (case x11_6 => k_is)
    (case x11_7 => k_is)
    (case x11_8 => k_is)
    (case x11_9 => k_is)
    (case x11_10 => k_is)
    (case x11l => k_is)
    (case x11d => k_is)
    (case x11k => k_is)
    (case x11_14 => k_is)
    (case x11_15 => k_is)
    (case x11_16 => k_is)
    (case x11_17 => k_is)
    (case x11_18 => k_is)
    (case x11_19 => k_is)
    (case x11_20 => k_is)
    (case x11_V => k_is)
    (case x11_S => k_is)
    (case x11_B => k_is)
    (case x0_n1 => k_is)
    (case x0_n2 => k_is)
    (case x0_n3 => k_is)
    (case x0_n4 => k_is)
    (case x0_n5 => k_is)
    (case x0_n6 => k_is)
    (case x0_n7 => k_is)
    (case x0_n8 => k_is)
    (case x0_n9 => k_is)
    (case x0_n10 => k_is)
    (case x0_n11 => k_is)
    (case x1_n0 => k_is)
    (case x1_n2 => k_is)
    (case x1_n3 => k_is)
    (case x1_n4 => k_is)
    (case x1_n5 => k_is)
    (case x1_n6 => k_is)
    (case x1_n7 => k_is)
    (case x1_n8 => k_is)
    (case x1_n9 => k_is)
    (case x1_n10 => k_is)
    (case x1_n11 => k_is)
    (case x2_n0 => k_is)
    (case x2_n1 => k_is)
    (case x2_n3 => k_is)
    (case x2_n4 => k_is)
    (case x2_n5 => k_is)
    (case x2_n6 => k_is)
    (case x2_n7 => k_is)
    (case x2_n8 => k_is)
    (case x2_n9 => k_is)
    (case x2_n10 => k_is)
    (case x2_n11 => k_is)
    (case x3_n0 => k_is)
    (case x3_n1 => k_is)
    (case x3_n2 => k_is)
    (case x3_n4 => k_is)
    (case x3_n5 => k_is)
    (case x3_n6 => k_is)
    (case x3_n7 => k_is)
    (case x3_n8 => k_is)
    (case x3_n9 => k_is)
    (case x3_n10 => k_is)
    (case x3_n11 => k_is)
    (case x4_n0 => k_is)
    (case x4_n1 => k_is)
    (case x4_n2 => k_is)
    (case x4_n3 => k_is)
    (case x4_n5 => k_is)
    (case x4_n6 => k_is)
    (case x4_n7 => k_is)
    (case x4_n8 => k_is)
    (case x4_n9 => k_is)
    (case x4_n10 => k_is)
    (case x4_n11 => k_is)
    (case x5_n0 => k_is)
    (case x5_n1 => k_is)
    (case x5_n2 => k_is)
    (case x5_n3 => k_is)
    (case x5_n4 => k_is)
    (case x5_n6 => k_is)
    (case x5_n7 => k_is)
    (case x5_n8 => k_is)
    (case x5_n9 => k_is)
    (case x5_n10 => k_is)
    (case x5_n11 => k_is)
    (case x6_n0 => k_is)
    (case x6_n1 => k_is)
    (case x6_n2 => k_is)
    (case x6_n3 => k_is)
    (case x6_n4 => k_is)
    (case x6_n5 => k_is)
    (case x6_n7 => k_is)
    (case x6_n8 => k_is)
    (case x6_n9 => k_is)
    (case x6_n10 => k_is)
    (case x6_n11 => k_is)
    (case x7_n0 => k_is)
    (case x7_n1 => k_is)
    (case x7_n2 => k_is)
    (case x7_n3 => k_is)
    (case x7_n4 => k_is)
    (case x7_n5 => k_is)
    (case x7_n6 => k_is)
    (case x7_n8 => k_is)
    (case x7_n9 => k_is)
    (case x7_n10 => k_is)
    (case x7_n11 => k_is)
    (case x8_n0 => k_is)
    (case x8_n1 => k_is)
    (case x8_n2 => k_is)
    (case x8_n3 => k_is)
    (case x8_n4 => k_is)
    (case x8_n5 => k_is)
    (case x8_n6 => k_is)
    (case x8_n7 => k_is)
    (case x8_n9 => k_is)
    (case x8_n10 => k_is)
    (case x8_n11 => k_is)
    (case x9_n0 => k_is)
    (case x9_n1 => k_is)
    (case x9_n2 => k_is)
    (case x9_n3 => k_is)
    (case x9_n4 => k_is)
    (case x9_n5 => k_is)
    (case x9_n6 => k_is)
    (case x9_n7 => k_is)
    (case x9_n8 => k_is)
    (case x9_n10 => k_is)
    (case x9_n11 => k_is)
    (case x10_n0 => k_is)
    (case x10_n1 => k_is)
    (case x10_n2 => k_is)
    (case x10_n3 => k_is)
    (case x10_n4 => k_is)
    (case x10_n5 => k_is)
    (case x10_n6 => k_is)
    (case x10_n7 => k_is)
    (case x10_n8 => k_is)
    (case x10_n9 => k_is)
    (case x10_n11 => k_is)
    (case x11_n0 => k_is)
    (case x11_n1 => k_is)
    (case x11_n2 => k_is)
    (case x11_n3 => k_is)
    (case x11_n4 => k_is)
    (case x11_n5 => k_is)
    (case x11_n6 => k_is)
    (case x11_n7 => k_is)
    (case x11_n8 => k_is)
    (case x11_n9 => k_is)
    (case x11_n10 => k_is)
