import PyProof.Rows.All
import Wide.All
import OpenK.AllK
import Wide.FinOn
import HandS.ForMost
import HandS.ForExc
import HandS.DictComp
import HandS.IsInst
import HandS.Walk
import HandS.StrMore
import HandS.SetKeys
import HandS.Zip
import HandS.TryOnly
import HandS.Style
import HandS.Defaults
import HandS.Sort
import HandS.SortRule
import HandS.SortInts
import HandS.DictTup
import KE.GoesEnum
import KE.KDictWalk
import HandS.SetFor
import HandS.Strs
import HandS.SetBool
import HandS.Conv
import HandS.ExcInit
import HandS.ExcIs
import HandS.ExcField
import HandS.MakeKwOnly
import HandS.EndTab
import KE.KExcIs
import KE.DataFind
import KE.KDictPairs
import HandS.TupMul
import PySem.Challenge.RW_partkin_k12_lacks_take_nothing
set_option Elab.async false
set_option maxRecDepth 100000
set_option linter.all false
set_option maxHeartbeats 8000000

/-! the layer of weakest readings, and of what a heap is known to hold -/
namespace WK
open PySem PySem.Spec PyProof.Rows L2

/-! ### weakest readings, the same in a def and in a comprehension's block -/
/-- what contexts of one def have alike -/
def Al (P : Program) (w : World) (K : PySem.W.Frag) (X : Cx) : Prop := X.prog = P ∧ X.w = w ∧ X.K = K ∧ X.calm = true ∧ X.A.units + 100 < cLine
theorem al_of {P : Program} {w : World} {K : PySem.W.Frag} {X : Cx} {k : Nat} (hr : Room k X.A) (h1 : X.prog = P := by rfl) (h2 : X.w = w := by rfl) (h3 : X.K = K := by rfl) (h4 : X.calm = true := by rfl) : Al P w K X :=
  ⟨h1, h2, h3, h4, by have := hr.un; omega⟩
section
variable (P : Program) (w : World) (K : PySem.W.Frag)
def OpU (f : Value → Value → Sem Value) : R2 := fun x y H Q => ∀ X pins s σ v u, Al P w K X → Inv X pins σ H s → RelV x v → RelV y u → wpAny (model X.prog X.w) X.A (f v u) (EP X pins σ Q) X.xe s
def IxU : R2 := fun x y H Q => ∀ (value slice : Expr) X pins s σ v u, Al P w K X → Inv X pins σ H s → RelV x v → RelV y u → subscripted slice false v u = operate [v, u] (getItem v u) →
  wpAny (model X.prog X.w) X.A (subscriptTail value slice v u) (EP X pins σ Q) X.xe s
def GetU : V → V → Hp → VK → Prop := fun x y H Q => ∀ X pins s σ v u, Al P w K X → Inv X pins σ H s → RelV x v → RelV y u → wpAny (model X.prog X.w) X.A (getItem v u) (EP X pins σ Q) X.xe s
def SetU : TSet := fun o i v H Q => ∀ X pins s σ ov iv u, Al P w K X → Inv X pins σ H s → RelV o ov → RelV i iv → RelV v u → wpAny (model X.prog X.w) X.A (setItem ov iv u) (fun _ s' => ∃ H', Inv X pins σ H' s' ∧ Q H') X.xe s
def IpU (op : Operator) : TIp := fun x y H Q => ∀ X pins s σ v u, Al P w K X → Inv X pins σ H s → RelV x v → RelV y u → wpAny (model X.prog X.w) X.A (inplaceOp op v u) (EP X pins σ Q) X.xe s
def CallU (f : Value) : List V → Hp → VK → Prop := fun xs H Q => ∀ X pins s σ us, Al P w K X → Inv X pins σ H s → Vals xs us → wpAny (model X.prog X.w) X.A (call f us) (EP X pins σ Q) X.xe s
def MetU (id : String) : V → List V → Hp → VK → Prop := fun x xs H Q => ∀ X pins s σ v us, Al P w K X → Inv X pins σ H s → RelV x v → Vals xs us → wpAny (model X.prog X.w) X.A (call (.builtin id) (v :: us)) (EP X pins σ Q) X.xe s
def TruU : V → Hp → (Bool → Hp → Prop) → Prop := fun x H Q => ∀ X pins s σ v, Al P w K X → Inv X pins σ H s → RelV x v → wpAny (model X.prog X.w) X.A (truthy v) (TP X pins σ Q) X.xe s
def SlU : V → Option Int → Option Int → Hp → VK → Prop := fun x lo hi H Q => ∀ X pins s σ v vl vu sl, Al P w K X → Inv X pins σ H s → RelV x v → s.heap.IsSliceOf sl vl vu .none → IsPart vl lo → IsPart vu hi →
    ∃ T id, typeLookup (.type T) "__getitem__" = pure (some (.builtin id)) ∧ s.TypeIs v T ∧ wpAny (model X.prog X.w) X.A (getItem v (.ref sl)) (EP X pins σ Q) X.xe s
def ItU (tg : Expr) : V → Hp → (It → Hp → Prop) → Prop := fun x H R => ∀ X pins s σ v, Al P w K X → Inv X pins σ H s → RelV x v → wpAny (model X.prog X.w) X.A (pyIter v) (PIE X pins σ tg R) X.xe s
end
section
variable {P : Program} {w : World} {K : PySem.W.Frag} {X : Cx}
theorem opU {f} (al : Al P w K X) : OpR X f (OpU P w K f) := fun pins s σ H x y v u Q I r1 r2 h => h X pins s σ v u al I r1 r2
theorem ixU (al : Al P w K X) : IxR X (IxU P w K) := fun value slice pins s σ H x y v u Q I r1 r2 h hs => h value slice X pins s σ v u al I r1 r2 hs
theorem getU (al : Al P w K X) : PGet X (GetU P w K) := fun pins s σ H o i ov iv Q I r1 r2 h => h X pins s σ ov iv al I r1 r2
theorem setU (al : Al P w K X) : PSet X (SetU P w K) := fun pins s σ H o i v ov iv u Q I r1 r2 r3 h => h X pins s σ ov iv u al I r1 r2 r3
theorem ipU {op} (al : Al P w K X) : PIp X op (IpU P w K op) := fun pins s σ H x y v u Q I r1 r2 h => h X pins s σ v u al I r1 r2
theorem callU {f} (al : Al P w K X) : CallR X f (CallU P w K f) := fun pins s σ H xs us Q I r h => h X pins s σ us al I r
theorem metU {id} (al : Al P w K X) : MtR X id (MetU P w K id) := fun pins s σ H x xs v us Q I r rs h => h X pins s σ v us al I r rs
theorem slU (al : Al P w K X) : SlR X (SlU P w K) := fun pins s σ H x v vl vu lo hi sl Q I r1 h1 h2 h3 h => h X pins s σ v vl vu sl al I r1 h1 h2 h3
/-- what is walked, by its value -/
def iVal (P : Program) (w : World) (K : PySem.W.Frag) (tg : Expr) (te : TE) : TI := fun σ H R => te σ H fun v H1 => ItU P w K tg v H1 R
theorem pi_val {tg e : Expr} {te : TE} (al : Al P w K X) (he : PE X e te) : PI X tg e (iVal P w K tg te) := by
  refine ⟨fun pins s σ H R I h => ?_⟩
  exact thn (he.run pins s σ H _ I h) fun v s1 ⟨x, H1, I1, r1, q1⟩ => q1 X pins s1 σ v al I1 r1
section
variable {x y z : V} {H : Hp} {Q : VK} {xs : List V}
theorem OpU.of {f} {r : R2} (h : ∀ X, Al P w K X → OpR X f r) (k : r x y H Q) : OpU P w K f x y H Q := fun X pins s σ v u al I r1 r2 => h X al pins s σ H x y v u Q I r1 r2 k
theorem IxU.of {r : R2} (h : ∀ X, Al P w K X → IxR X r) (k : r x y H Q) : IxU P w K x y H Q := fun value slice X pins s σ v u al I r1 r2 hs => h X al value slice pins s σ H x y v u Q I r1 r2 k hs
theorem SetU.of {t : TSet} {Q : Hp → Prop} (h : ∀ X, Al P w K X → PSet X t) (k : t x y z H Q) : SetU P w K x y z H Q := fun X pins s σ ov iv u al I r1 r2 r3 => h X al pins s σ H x y z ov iv u Q I r1 r2 r3 k
theorem IpU.of {op} {t : TIp} (h : ∀ X, Al P w K X → PIp X op t) (k : t x y H Q) : IpU P w K op x y H Q := fun X pins s σ v u al I r1 r2 => h X al pins s σ H x y v u Q I r1 r2 k
theorem CallU.of {f} {r : List V → Hp → VK → Prop} (h : ∀ X, Al P w K X → CallR X f r) (k : r xs H Q) : CallU P w K f xs H Q := fun X pins s σ us al I r1 => h X al pins s σ H xs us Q I r1 k
theorem MetU.of {id} {r : V → List V → Hp → VK → Prop} (h : ∀ X, Al P w K X → MtR X id r) (k : r x xs H Q) : MetU P w K id x xs H Q := fun X pins s σ v us al I r1 rs => h X al pins s σ H x xs v us Q I r1 rs k
theorem TruU.of {r : V → Hp → (Bool → Hp → Prop) → Prop} {Q : Bool → Hp → Prop} (h : ∀ X, Al P w K X → TruR X r) (k : r x H Q) : TruU P w K x H Q := fun X pins s σ v al I r1 => h X al pins s σ H x v Q I r1 k
theorem SlU.of {r : V → Option Int → Option Int → Hp → VK → Prop} {lo hi : Option Int} (h : ∀ X, Al P w K X → SlR X r) (k : r x lo hi H Q) : SlU P w K x lo hi H Q :=
  fun X pins s σ v vl vu sl al I r1 h1 h2 h3 => h X al pins s σ H x v vl vu lo hi sl Q I r1 h1 h2 h3 k
theorem OpU.ofK {f} {r : PySem.W.Frag → R2} (h : ∀ X, Al P w K X → OpR X f (r X.K)) (k : r K x y H Q) : OpU P w K f x y H Q := .of (fun X al => by have := h X al; rw [al.2.2.1] at this; exact this) k
theorem IxU.ofK {r : PySem.W.Frag → R2} (h : ∀ X, Al P w K X → IxR X (r X.K)) (k : r K x y H Q) : IxU P w K x y H Q := .of (fun X al => by have := h X al; rw [al.2.2.1] at this; exact this) k
theorem CallU.ofK {f} {r : PySem.W.Frag → List V → Hp → VK → Prop} (h : ∀ X, Al P w K X → CallR X f (r X.K)) (k : r K xs H Q) : CallU P w K f xs H Q := .of (fun X al => by have := h X al; rw [al.2.2.1] at this; exact this) k
theorem MetU.ofK {id} {r : PySem.W.Frag → V → List V → Hp → VK → Prop} (h : ∀ X, Al P w K X → MtR X id (r X.K)) (k : r K x xs H Q) : MetU P w K id x xs H Q := .of (fun X al => by have := h X al; rw [al.2.2.1] at this; exact this) k
theorem SlU.ofK {r : PySem.W.Frag → V → Option Int → Option Int → Hp → VK → Prop} {lo hi : Option Int} (h : ∀ X, Al P w K X → SlR X (r X.K)) (k : r K x lo hi H Q) : SlU P w K x lo hi H Q := .of (fun X al => by have := h X al; rw [al.2.2.1] at this; exact this) k
theorem TruU.ofK {r : PySem.W.Frag → V → Hp → (Bool → Hp → Prop) → Prop} {Q : Bool → Hp → Prop} (h : ∀ X, Al P w K X → TruR X (r X.K)) (k : r K x H Q) : TruU P w K x H Q := .of (fun X al => by have := h X al; rw [al.2.2.1] at this; exact this) k
theorem ItU.list {tg : Expr} {a : Addr} {xs : List V} {R : It → Hp → Prop} (h : SqL K H a xs) (k : R (Itl K a) H) : ItU P w K tg (.ref a) H R := by
  intro X pins s σ v al I r
  obtain ⟨rfl, rfl, rfl, hc, hu⟩ := al
  cases r
  obtain ⟨its, rv, p, hz⟩ := I.list h
  refine wpAny_pyIter_list p.isList ?_
  refine ⟨s.heap.objs.size, [s.heap.objs.size], _, _, H, rfl, I.kept (t' := s.toks) fun b o e => Heap.get?_push_of_some _ e, turn_list a _, ⟨_, Heap.get?_push_size _ rfl, rfl, rfl⟩, fun b hb => ?_, k⟩
  have e : b = s.heap.objs.size := by simpa using hb
  subst e
  exact I.fpOk (Nat.le_refl _) (I.hok.fresh (Nat.le_refl _))
theorem ItU.tup {tg : Expr} {a : Addr} {xs : List V} {R : It → Hp → Prop} (h : SqT K H a xs) (k : R (Itt K a) H) : ItU P w K tg (.ref a) H R := by
  intro X pins s σ v al I r
  obtain ⟨rfl, rfl, rfl, hc, hu⟩ := al
  cases r
  obtain ⟨its, rv, p, hz⟩ := I.tuple h
  refine wpAny_pyIter_tuple (show s.heap.IsTuple a its.toArray from p) ?_
  refine ⟨s.heap.objs.size, [s.heap.objs.size], _, _, H, rfl, I.kept (t' := s.toks) fun b o e => Heap.get?_push_of_some _ e, turn_tuple a _, ⟨_, Heap.get?_push_size _ rfl, rfl, rfl⟩, fun b hb => ?_, k⟩
  have e : b = s.heap.objs.size := by simpa using hb
  subst e
  exact I.fpOk (Nat.le_refl _) (I.hok.fresh (Nat.le_refl _))
end
end
end WK
namespace WK
open PySem PySem.Spec PyProof.Rows L2
theorem pg_tupU (K : PySem.W.Frag) {X : Cx} {es : List Expr} {k : Nat} {t : TGs} {n : Nat} {pos : Pos} (h : PGs X es t) (hK : X.K = K := by rfl) (hc : X.calm = true := by rfl) (hn : (assignEach es X.env).length = n := by rfl) (hst : (assignEach es X.env).findIdx? (·.1) = none := by rfl) :
    PG X (.Tuple es k pos) (gTup K n t) := by
  subst hK
  exact pg_tup hc h hn hst
theorem pe_fldU (K : PySem.W.Frag) {X : Cx} {e : Expr} {f : Str} {ta : TE} {pos : Pos} (he : PE X e ta) (hb : attributeBase e f X.env (eval e X.env) = eval e X.env) (hK : X.K = K := by rfl) : PE X (.Attribute e f pos) (tFld K ta f) := by
  subst hK
  exact pe_fld he hb
end WK

namespace WK
open PySem PySem.Spec PyProof.Rows L2

/-! ### what a heap is known to hold: B what stays, L what is one's own -/
abbrev Ex (H H' : Hp) : Prop := ∀ a o, H a = some o → H' a = some o
theorem Ex.refl (H : Hp) : Ex H H := fun _ _ h => h
theorem Ex.trans {H H1 H2 : Hp} (a : Ex H H1) (b : Ex H1 H2) : Ex H H2 := fun x o h => b x o (a x o h)
theorem Ex.new {H : Hp} {p : Addr} {o : HO} (h : H p = none) : Ex H (upd H p o) := fun a u e => by
  rw [upd_ne (ne_of_none e h)]
  exact e
theorem Ex.rd {H H' : Hp} {a : Addr} {u : HO} (e : Ex H H') (h : Rd H a u) : Rd H' a u := by
  rcases h with h | ⟨o, h⟩
  · exact Or.inl (e a _ h)
  · exact Or.inr ⟨o, e a _ h⟩
theorem Ex.sqL {K : PySem.W.Frag} {H H' : Hp} {a : Addr} {xs : List V} (e : Ex H H') (h : SqL K H a xs) : SqL K H' a xs := by
  rcases h with h | h
  · exact Or.inl (e.rd h)
  · exact Or.inr h
theorem Ex.sqT {K : PySem.W.Frag} {H H' : Hp} {a : Addr} {xs : List V} (e : Ex H H') (h : SqT K H a xs) : SqT K H' a xs := by
  rcases h with h | h
  · exact Or.inl (e.rd h)
  · exact Or.inr h
theorem Ex.ap {H H' : Hp} {a : Addr} {o : HO} (e : Ex H H') (h : H a = some o) : H' a = some o := e a o h

abbrev Led := List (Addr × HO)
structure Ent where
  B : Hp
  H : Hp
  A : List Addr
/-- F: how it was at an entry, and which addresses of it may change -/
structure Ok (F : Ent) (B : Hp) (L : Led) (H : Hp) : Prop where
  ex : Ex B H
  nd : (L.map (·.1)).Nodup
  own : ∀ p ∈ L, H p.1 = some p.2 ∧ B p.1 = none
  ex0 : Ex F.B B
  keep : ∀ a o, F.H a = some o → a ∉ F.A → H a = some o
  kA : ∀ a ∈ F.A, ∃ o, H a = some o
  fB : ∀ a o, B a = some o → (∃ u, F.B a = some u) ∨ F.H a = none ∨ a ∈ F.A
  fL : ∀ p ∈ L, p.1 ∈ F.A ∨ F.H p.1 = none
section
variable {F : Ent} {B H : Hp} {L L1 L2 : Led} {p : Addr} {o o' : HO}
theorem Ok.start (h : Ex B H) (nd : (L.map (·.1)).Nodup) (own : ∀ p ∈ L, H p.1 = some p.2 ∧ B p.1 = none) : Ok ⟨B, H, L.map (·.1)⟩ B L H where
  ex := h
  nd := nd
  own := own
  ex0 := Ex.refl _
  keep := fun _ _ e _ => e
  kA := fun a ha => by
    obtain ⟨q, hq, rfl⟩ := List.mem_map.mp ha
    exact ⟨_, (own q hq).1⟩
  fB := fun _ _ e => .inl ⟨_, e⟩
  fL := fun q hq => .inl (List.mem_map.mpr ⟨q, hq, rfl⟩)
theorem Ok.start0 (h : Ex B H) : Ok ⟨B, H, []⟩ B [] H := Ok.start (L := []) h List.nodup_nil (fun _ z => nomatch z)
theorem Ok.again (S : Ok F B L H) : Ok ⟨B, H, L.map (·.1)⟩ B L H := Ok.start S.ex S.nd S.own
theorem Ok.fresh (S : Ok F B L H) (hp : H p = none) : F.H p = none ∧ B p = none ∧ p ∉ L.map (·.1) := by
  refine ⟨?_, ?_, fun z => ?_⟩
  · cases e : F.H p with
    | none => rfl
    | some u =>
      by_cases ha : p ∈ F.A
      · obtain ⟨w, hw⟩ := S.kA p ha
        rw [hp] at hw
        cases hw
      · have := S.keep p u e ha
        rw [hp] at this
        cases this
  · cases e : B p with
    | none => rfl
    | some u =>
      have := S.ex p u e
      rw [hp] at this
      cases this
  · obtain ⟨q, hq, rfl⟩ := List.mem_map.mp z
    have := (S.own q hq).1
    rw [hp] at this
    cases this
theorem Ok.newL (S : Ok F B L H) (hp : H p = none) : Ok F B ((p, o) :: L) (upd H p o) := by
  obtain ⟨f0, f1, f2⟩ := S.fresh hp
  have ne : ∀ {a u}, H a = some u → a ≠ p := fun e => ne_of_none e hp
  refine ⟨fun a u e => ?_, List.nodup_cons.mpr ⟨f2, S.nd⟩, fun q hq => ?_, S.ex0, fun a u e h => ?_, fun a h => ?_, S.fB, fun q hq => ?_⟩
  · rw [upd_ne (ne (S.ex a u e))]; exact S.ex a u e
  · rcases List.mem_cons.mp hq with rfl | hq
    · exact ⟨upd_same, f1⟩
    · obtain ⟨e1, e2⟩ := S.own q hq
      exact ⟨by rw [upd_ne (ne e1)]; exact e1, e2⟩
  · have := S.keep a u e h
    rw [upd_ne (ne this)]; exact this
  · obtain ⟨u, e⟩ := S.kA a h
    exact ⟨u, by rw [upd_ne (ne e)]; exact e⟩
  · rcases List.mem_cons.mp hq with rfl | hq
    · exact .inr f0
    · exact S.fL q hq
/-- a thing that nobody tells of -/
theorem Ok.junk (S : Ok F B L H) (hp : H p = none) : Ok F B L (upd H p o) := by
  have S1 : Ok F B ((p, o) :: L) (upd H p o) := S.newL hp
  exact ⟨S1.ex, (List.nodup_cons.mp S1.nd).2, fun q hq => S1.own q (List.mem_cons_of_mem _ hq), S1.ex0, S1.keep, S1.kA, S1.fB, fun q hq => S1.fL q (List.mem_cons_of_mem _ hq)⟩
theorem Ok.perm (S : Ok F B L H) (h : L.Perm L1) : Ok F B L1 H :=
  ⟨S.ex, (h.map _).nodup_iff.mp S.nd, fun q hq => S.own q (h.mem_iff.mpr hq), S.ex0, S.keep, S.kA, S.fB, fun q hq => S.fL q (h.mem_iff.mpr hq)⟩
/-- the first of one's own is let go: it stays as it is from now on -/
theorem Ok.freeze (S : Ok F B ((p, o) :: L) H) : Ok F (upd B p o) L H := by
  obtain ⟨e1, e2⟩ := S.own _ (List.mem_cons_self ..)
  have nd := List.nodup_cons.mp S.nd
  have np : ∀ q ∈ L, q.1 ≠ p := fun q hq z => nd.1 (List.mem_map.mpr ⟨q, hq, z⟩)
  refine ⟨fun a u e => ?_, nd.2, fun q hq => ?_, fun a u e => ?_, S.keep, S.kA, fun a u e => ?_, fun q hq => S.fL q (List.mem_cons_of_mem _ hq)⟩
  · by_cases h : a = p
    · subst h
      rw [upd_same] at e
      cases e
      exact e1
    · rw [upd_ne h] at e
      exact S.ex a u e
  · obtain ⟨g1, g2⟩ := S.own q (List.mem_cons_of_mem _ hq)
    exact ⟨g1, by rw [upd_ne (np q hq)]; exact g2⟩
  · have := S.ex0 a u e
    rw [upd_ne (ne_of_none this e2)]; exact this
  · by_cases h : a = p
    · subst h
      rcases S.fL _ (List.mem_cons_self ..) with z | z
      · exact .inr (.inr z)
      · exact .inr (.inl z)
    · rw [upd_ne h] at e
      exact S.fB a u e
theorem Ok.exF (S : Ok F B ((p, o) :: L) H) : Ex B (upd B p o) := Ex.new (S.own _ (List.mem_cons_self ..)).2
theorem Ok.mut (S : Ok F B ((p, o) :: L) H) : Ok F B ((p, o') :: L) (upd H p o') := by
  obtain ⟨e1, e2⟩ := S.own _ (List.mem_cons_self ..)
  have nd := List.nodup_cons.mp S.nd
  have np : ∀ q ∈ L, q.1 ≠ p := fun q hq z => nd.1 (List.mem_map.mpr ⟨q, hq, z⟩)
  refine ⟨fun a u e => ?_, List.nodup_cons.mpr nd, fun q hq => ?_, S.ex0, fun a u e h => ?_, fun a h => ?_, S.fB, fun q hq => ?_⟩
  · rw [upd_ne (ne_of_none e e2)]; exact S.ex a u e
  · rcases List.mem_cons.mp hq with rfl | hq
    · exact ⟨upd_same, e2⟩
    · obtain ⟨g1, g2⟩ := S.own q (List.mem_cons_of_mem _ hq)
      exact ⟨by rw [upd_ne (np q hq)]; exact g1, g2⟩
  · rcases S.fL _ (List.mem_cons_self ..) with z | z
    · rw [upd_ne (fun y => h (by rw [y]; exact z))]; exact S.keep a u e h
    · rw [upd_ne (fun y => by rw [y] at e; rw [z] at e; cases e)]; exact S.keep a u e h
  · by_cases y : a = p
    · exact ⟨o', by rw [y]; exact upd_same⟩
    · rw [upd_ne y]; exact S.kA a h
  · rcases List.mem_cons.mp hq with rfl | hq
    · exact S.fL (p, o) (List.mem_cons_self ..)
    · exact S.fL q (List.mem_cons_of_mem _ hq)
/-- at any place of the ledger -/
theorem Ok.mutAt (S : Ok F B (L1 ++ (p, o) :: L2) H) : Ok F B (L1 ++ (p, o') :: L2) (upd H p o') :=
  ((S.perm List.perm_middle).mut (o' := o')).perm List.perm_middle.symm
theorem Ok.newB (S : Ok F B L H) (hp : H p = none) : Ok F (upd B p o) L (upd H p o) := (S.newL hp).freeze
theorem Ok.exB (S : Ok F B L H) (hp : H p = none) : Ex B (upd B p o) := Ex.new (S.fresh hp).2.1
/-- a call that may change L1 alone -/
theorem Ok.call {B' H' : Hp} {L1' : Led} (S : Ok F B (L1 ++ L2) H) (T : Ok ⟨B, H, L1.map (·.1)⟩ B' L1' H') : Ok F B' (L1' ++ L2) H' := by
  have nd := S.nd
  rw [List.map_append, List.nodup_append] at nd
  have na : ∀ q ∈ L2, q.1 ∉ L1.map (·.1) := fun q hq z => nd.2.2 _ z _ (List.mem_map.mpr ⟨q, hq, rfl⟩) rfl
  have k2 : ∀ q ∈ L2, H' q.1 = some q.2 ∧ B' q.1 = none := fun q hq => by
    obtain ⟨e1, e2⟩ := S.own q (List.mem_append_right _ hq)
    refine ⟨T.keep _ _ e1 (na q hq), ?_⟩
    cases e : B' q.1 with
    | none => rfl
    | some u =>
      rcases T.fB _ _ e with ⟨w, z⟩ | z | z
      · rw [show B q.1 = some w from z] at e2
        cases e2
      · rw [show H q.1 = none from z] at e1
        cases e1
      · exact absurd z (na q hq)
  have key : ∀ a, a ∈ L1.map (·.1) → a ∈ F.A ∨ F.H a = none := fun a ha => by
    obtain ⟨q, hq, rfl⟩ := List.mem_map.mp ha
    exact S.fL q (List.mem_append_left _ hq)
  refine ⟨T.ex, ?_, fun q hq => ?_, S.ex0.trans T.ex0, fun a u e h => ?_, fun a h => ?_, fun a u e => ?_, fun q hq => ?_⟩
  · rw [List.map_append, List.nodup_append]
    refine ⟨T.nd, nd.2.1, fun a ha b hb z => ?_⟩
    subst z
    obtain ⟨q, hq, rfl⟩ := List.mem_map.mp hb
    obtain ⟨q', hq', e'⟩ := List.mem_map.mp ha
    rcases T.fL q' hq' with y | y
    · exact na q hq (by rw [← e']; exact y)
    · have := (S.own q (List.mem_append_right _ hq)).1
      have y' : H q'.1 = none := y
      have e'' : q'.1 = q.1 := e'
      rw [e'', this] at y'
      cases y'
  · rcases List.mem_append.mp hq with hq | hq
    · exact T.own q hq
    · exact k2 q hq
  · refine T.keep a u (S.keep a u e h) fun z => ?_
    rcases key a z with y | y
    · exact h y
    · rw [y] at e
      cases e
  · obtain ⟨u, e⟩ := S.kA a h
    by_cases z : a ∈ L1.map (·.1)
    · exact T.kA a z
    · exact ⟨u, T.keep a u e z⟩
  · rcases T.fB a u e with ⟨w, z⟩ | z | z
    · exact S.fB a w z
    · refine .inr (.inl ?_)
      cases e' : F.H a with
      | none => rfl
      | some w =>
        by_cases y : a ∈ F.A
        · obtain ⟨v, hv⟩ := S.kA a y
          rw [show H a = none from z] at hv
          cases hv
        · have := S.keep a w e' y
          rw [show H a = none from z] at this
          cases this
    · rcases key a z with y | y
      · exact .inr (.inr y)
      · exact .inr (.inl y)
  · rcases List.mem_append.mp hq with hq | hq
    · rcases T.fL q hq with z | z
      · exact key _ z
      · refine .inr ?_
        cases e' : F.H q.1 with
        | none => rfl
        | some w =>
          by_cases y : q.1 ∈ F.A
          · obtain ⟨v, hv⟩ := S.kA _ y
            rw [show H q.1 = none from z] at hv
            cases hv
          · have := S.keep _ w e' y
            rw [show H q.1 = none from z] at this
            cases this
    · exact S.fL q (List.mem_append_right _ hq)
theorem Ok.callP {B' H' : Hp} (S : Ok F B L H) (T : Ok ⟨B, H, []⟩ B' [] H') : Ok F B' L H' := S.call (L1 := []) (L1' := []) T
/-- a call that hands out one's own things besides -/
theorem Ok.callN {B' H' : Hp} {L' : Led} (S : Ok F B L H) (T : Ok ⟨B, H, []⟩ B' L' H') : Ok F B' (L' ++ L) H' := S.call (L1 := []) (L1' := L') T
theorem Ok.at (S : Ok F B L H) {q : Addr × HO} (h : q ∈ L) : H q.1 = some q.2 := (S.own q h).1
theorem Ok.sqB {K : PySem.W.Frag} {a : Addr} {xs : List V} (S : Ok F B L H) (h : SqL K B a xs) : SqL K H a xs := S.ex.sqL h
theorem Ok.tqB {K : PySem.W.Frag} {a : Addr} {xs : List V} (S : Ok F B L H) (h : SqT K B a xs) : SqT K H a xs := S.ex.sqT h
/-- the ledger less what is no longer looked at -/
theorem Ok.drop (S : Ok F B ((p, o) :: L) H) : Ok F B L H :=
  ⟨S.ex, (List.nodup_cons.mp S.nd).2, fun q hq => S.own q (List.mem_cons_of_mem _ hq), S.ex0, S.keep, S.kA, S.fB, fun q hq => S.fL q (List.mem_cons_of_mem _ hq)⟩
end

end WK
namespace L2
open PySem PySem.Spec PyProof.Rows WK
/-! ### data -/
section
variable {K : PySem.W.Frag} {B B' : Hp}
mutual
theorem Dp.up (e : Ex B B') : ∀ {v : V} {d : PyData}, Dp K B v d → Dp K B' v d
  | _, _, .non => .non
  | _, _, .bl b => .bl b
  | _, _, .int i => .int i
  | _, _, .str x => .str x
  | _, _, .lst h a => .lst (e.sqL h) (DpAll.up e a)
  | _, _, .tup h a => .tup (e.sqT h) (DpAll.up e a)
theorem DpAll.up (e : Ex B B') : ∀ {vs : List V} {ds : List PyData}, DpAll K B vs ds → DpAll K B' vs ds
  | _, _, .nil => .nil
  | _, _, .cons h t => .cons (Dp.up e h) (DpAll.up e t)
end
theorem Dp.int_inv {v : V} {i : Int} (h : Dp K B v (.int i)) : v = .int i := by cases h; rfl
theorem Dp.str_inv {v : V} {x : Str} (h : Dp K B v (.str x)) : v = .str x := by cases h; rfl
theorem Dp.bl_inv {v : V} {x : Bool} (h : Dp K B v (.bool x)) : v = .bl x := by cases h; rfl
theorem Dp.tup_inv {v : V} {ds : List PyData} (h : Dp K B v (.tuple ds)) : ∃ a xs, v = .ref a ∧ SqT K B a xs ∧ DpAll K B xs ds := by
  cases h with
  | tup h a => exact ⟨_, _, rfl, h, a⟩
theorem Dp.lst_inv {v : V} {ds : List PyData} (h : Dp K B v (.list ds)) : ∃ a xs, v = .ref a ∧ SqL K B a xs ∧ DpAll K B xs ds := by
  cases h with
  | lst h a => exact ⟨_, _, rfl, h, a⟩
theorem DpAll.nil_inv {vs : List V} (h : DpAll K B vs []) : vs = [] := by cases h; rfl
theorem DpAll.cons_inv {vs : List V} {d : PyData} {ds : List PyData} (h : DpAll K B vs (d :: ds)) : ∃ v r, vs = v :: r ∧ Dp K B v d ∧ DpAll K B r ds := by
  cases h with
  | cons h t => exact ⟨_, _, rfl, h, t⟩
theorem DpAll.length : ∀ {vs : List V} {ds : List PyData}, DpAll K B vs ds → vs.length = ds.length
  | _, _, .nil => rfl
  | _, _, .cons _ t => congrArg (· + 1) (DpAll.length t)
theorem DpAll.get : ∀ {vs : List V} {ds : List PyData}, DpAll K B vs ds → ∀ {i : Nat} {v : V}, vs[i]? = some v → ∃ d, ds[i]? = some d ∧ Dp K B v d
  | _, _, .nil, i, v, h => by simp at h
  | _, _, .cons h t, 0, v, e => by simp at e; subst e; exact ⟨_, rfl, h⟩
  | _, _, .cons h t, i + 1, v, e => by simpa using DpAll.get t (i := i) (by simpa using e)
theorem DpAll.get' : ∀ {vs : List V} {ds : List PyData}, DpAll K B vs ds → ∀ {i : Nat} {d : PyData}, ds[i]? = some d → ∃ v, vs[i]? = some v ∧ Dp K B v d
  | _, _, .nil, i, v, h => by simp at h
  | _, _, .cons h t, 0, v, e => by simp at e; subst e; exact ⟨_, rfl, h⟩
  | _, _, .cons h t, i + 1, v, e => by simpa using DpAll.get' t (i := i) (by simpa using e)
theorem DpAll.append : ∀ {vs ws : List V} {ds es : List PyData}, DpAll K B vs ds → DpAll K B ws es → DpAll K B (vs ++ ws) (ds ++ es)
  | _, _, _, _, .nil, s => s
  | _, _, _, _, .cons h t, s => .cons h (DpAll.append t s)
theorem DpAll.snoc {vs : List V} {v : V} {ds : List PyData} {d : PyData} (h : DpAll K B vs ds) (g : Dp K B v d) : DpAll K B (vs ++ [v]) (ds ++ [d]) := h.append (.cons g .nil)
theorem DpAll.ints : ∀ {vs : List V} {ns : List Int}, DpAll K B vs (ns.map PyData.int) → vs = ns.map V.int
  | _, [], .nil => rfl
  | _, n :: ns, .cons h t => by rw [Dp.int_inv h, DpAll.ints t]; rfl
theorem DpAll.strs : ∀ {vs : List V} {ns : List Str}, DpAll K B vs (ns.map PyData.str) → vs = ns.map V.str
  | _, [], .nil => rfl
  | _, n :: ns, .cons h t => by rw [Dp.str_inv h, DpAll.strs t]; rfl
theorem dpInts : ∀ (ns : List Int), DpAll K B (ns.map V.int) (ns.map PyData.int)
  | [] => .nil
  | n :: ns => .cons (.int n) (dpInts ns)
theorem DpAll.bools : ∀ {vs : List V} {ns : List Bool}, DpAll K B vs (ns.map PyData.bool) → vs = ns.map V.bl
  | _, [], .nil => rfl
  | _, n :: ns, .cons h t => by rw [Dp.bl_inv h, DpAll.bools t]; rfl
end
end L2

namespace WK
open PySem PySem.Spec PyProof.Rows L2

/-! ### reading by reading: what to show next -/
def BlQ (Q : Bool → Hp → Prop) (x : V) (H : Hp) : Prop := ∃ b, x = .bl b ∧ Q b H
def InQ (Q : Int → Hp → Prop) (x : V) (H : Hp) : Prop := ∃ i, x = .int i ∧ Q i H
def PrQ (Q : V → V → Hp → Prop) (vs : List V) (H : Hp) : Prop := ∃ v w, vs = [v, w] ∧ Q v w H
section
variable {X : Cx} {K : PySem.W.Frag} {σ : L2.St} {H : Hp} {Q : VK} {ta tb te tc : TE} {t u : TT}
theorem r_var {i : Nat} {v : V} (h : σ[i]? = some (some v)) (k : Q v H) : tVar i σ H Q := ⟨v, h, k⟩
theorem r_c {v : V} (k : Q v H) : tC v σ H Q := k
theorem r_op {r : R2} (k : ta σ H fun x H1 => tb σ H1 fun y H2 => r x y H2 Q) : tOp r ta tb σ H Q := k
theorem r_un {r : V → Hp → VK → Prop} (k : ta σ H fun x H1 => r x H1 Q) : tUn r ta σ H Q := k
theorem r_test {Q : Bool → Hp → Prop} (k : te σ H (BlQ Q)) : tTest te σ H Q := k
theorem r_B {Q : Bool → Hp → Prop} (k : te σ H (BlQ Q)) : tB te σ H Q := k
theorem r_bl {Q : Bool → Hp → Prop} {b : Bool} (k : Q b H) : BlQ Q (.bl b) H := ⟨b, rfl, k⟩
theorem r_and {Q : Bool → Hp → Prop} (k : t σ H fun c H1 => if c = true then u σ H1 Q else Q false H1) : tAnd t u σ H Q := k
theorem r_or {Q : Bool → Hp → Prop} (k : t σ H fun c H1 => if c = true then Q true H1 else u σ H1 Q) : tOr t u σ H Q := k
theorem r_not {Q : Bool → Hp → Prop} (k : t σ H fun c H1 => Q (!c) H1) : tNot t σ H Q := k
theorem r_andV (k : ta σ H (BlQ fun c H1 => if c = true then tb σ H1 Q else Q (.bl false) H1)) : tAndV ta tb σ H Q := k
theorem r_orV (k : ta σ H (BlQ fun c H1 => if c = true then Q (.bl true) H1 else tb σ H1 Q)) : tOrV ta tb σ H Q := k
theorem r_notV (k : ta σ H (BlQ fun c H1 => Q (.bl (!c)) H1)) : tNotV ta σ H Q := k
theorem r_if (k : t σ H fun c H1 => if c = true then ta σ H1 Q else tb σ H1 Q) : tIf t ta tb σ H Q := k
theorem r_nil {Q : List V → Hp → Prop} (k : Q [] H) : tNil σ H Q := k
theorem r_cons {tr : TA} {Q : List V → Hp → Prop} (k : te σ H fun x H1 => tr σ H1 fun xs H2 => Q (x :: xs) H2) : tCons te tr σ H Q := k
theorem r_cb {r : List V → Hp → VK → Prop} {ts : TA} (k : ts σ H fun vs H1 => r vs H1 Q) : tCB r ts σ H Q := k
theorem r_nopart {Q : Option Int → Hp → Prop} (k : Q none H) : tNoPart σ H Q := k
theorem r_part {Q : Option Int → Hp → Prop} (k : te σ H (InQ fun i H1 => Q (some i) H1)) : tPart te σ H Q := k
theorem r_in {Q : Int → Hp → Prop} {i : Int} (k : Q i H) : InQ Q (.int i) H := ⟨i, rfl, k⟩
theorem r_sl {r : V → Option Int → Option Int → Hp → VK → Prop} {tl th : TO} (k : te σ H fun x H1 => tl σ H1 fun l H2 => th σ H2 fun u H3 => r x l u H3 Q) : tSl r te tl th σ H Q := k
theorem r_chain {r r' : R2} (k : ta σ H fun x H1 => tb σ H1 fun y H2 => r x y H2 (BlQ fun k H3 => if k = true then tc σ H3 fun w H4 => r' y w H4 Q else Q (.bl false) H3)) : tChain r r' ta tb tc σ H Q := k
/-! statements -/
variable {D : Ends} {ts us : TS}
theorem r_seq (k : ts { D with nx := us D } σ H) : tSeq ts us D σ H := k
theorem r_next (k : D.nx σ H) : tNext D σ H := k
theorem r_asg {g : TG} (k : te σ H fun x H1 => g x σ H1 D.nx) : tAsg te g D σ H := k
theorem r_drop (k : te σ H fun _ H1 => D.nx σ H1) : tDrop te D σ H := k
theorem r_ret (k : te σ H D.rt) : tRet te D σ H := k
theorem r_retN (k : D.rt .non H) : tRetN D σ H := k
theorem r_ifS (k : t σ H fun b H1 => if b = true then ts D σ H1 else us D σ H1) : tIfS t ts us D σ H := k
theorem r_gsub {to ti : TE} {tse : TSet} {v : V} {Q : L2.St → Hp → Prop} (k : to σ H fun o H1 => ti σ H1 fun i H2 => tse o i v H2 fun H3 => Q σ H3) : gSub to ti tse v σ H Q := k
theorem r_gtup {n : Nat} {gs : TGs} {a : Addr} {xs : List V} {Q : L2.St → Hp → Prop} (h : SqT K H a xs) (hn : xs.length = n) (k : gs xs σ H Q) : gTup K n gs (.ref a) σ H Q := ⟨a, xs, rfl, h, hn, k⟩
theorem r_gnil {Q : L2.St → Hp → Prop} (k : Q σ H) : gNil [] σ H Q := ⟨rfl, k⟩
theorem r_gcons {g : TG} {gs : TGs} {v : V} {vs : List V} {Q : L2.St → Hp → Prop} (k : g v σ H fun σ' H' => gs vs σ' H' Q) : gCons g gs (v :: vs) σ H Q := ⟨v, vs, rfl, k⟩
theorem r_par {i j : Nat} {tas : TA} (k : tas σ H (PrQ fun v w H1 => D.nx ((σ.set i (some v)).set j (some w)) H1)) : tPar i j tas D σ H := k
theorem r_par2 {Q : V → V → Hp → Prop} {v w : V} (k : Q v w H) : PrQ Q [v, w] H := ⟨v, w, rfl, k⟩
theorem r_aug {i : Nat} {ti : TIp} {v : V} (h : σ[i]? = some (some v)) (k : te σ H fun y H1 => ti v y H1 fun z H2 => D.nx (σ.set i (some z)) H2) : tAug i te ti D σ H := ⟨v, h, k⟩
theorem r_augS {to ti : TE} {tget : V → V → Hp → VK → Prop} {tip : TIp} {tset : TSet}
    (k : to σ H fun o H1 => ti σ H1 fun i H2 => tget o i H2 fun x H3 => te σ H3 fun y H4 => tip x y H4 fun z H5 => tset o i z H5 fun H6 => D.nx σ H6) : tAugS to ti te tget tip tset D σ H := k
end
/-! branches -/
theorem ifd {c : Prop} {inst : Decidable c} {A B : Prop} (h1 : c → A) (h2 : ¬ c → B) : if decide c = true then A else B := by
  by_cases h : c
  · rw [if_pos (decide_eq_true h)]; exact h1 h
  · rw [if_neg (by rw [decide_eq_false h]; exact Bool.false_ne_true)]; exact h2 h
theorem ifT {b : Bool} {A B : Prop} (h : b = true) (k : A) : if b = true then A else B := by rw [if_pos h]; exact k
theorem ifF {b : Bool} {A B : Prop} (h : b = false) (k : B) : if b = true then A else B := by rw [if_neg (by rw [h]; exact Bool.false_ne_true)]; exact k
theorem ifdT {c : Prop} {inst : Decidable c} {A B : Prop} (h : c) (k : A) : if decide c = true then A else B := ifT (decide_eq_true h) k
theorem ifdF {c : Prop} {inst : Decidable c} {A B : Prop} (h : ¬ c) (k : B) : if decide c = true then A else B := ifF (decide_eq_false h) k
theorem ifb {b : Bool} {A B : Prop} (h1 : b = true → A) (h2 : b = false → B) : if b = true then A else B := by
  cases b with
  | true => exact if_pos rfl ▸ h1 rfl
  | false => exact h2 rfl

theorem Al.hu {P w K X} (al : Al P w K X) : X.A.units + 1 < cLine := by have := al.2.2.2.2; omega
theorem Al.hu64 {P w K X} (al : Al P w K X) : X.A.units + 64 < cLine := by have := al.2.2.2.2; omega
theorem Al.calm {P w K X} (al : Al P w K X) : X.calm = true := al.2.2.2.1
/-! ### by values -/
section
variable {P : Program} {w : World} {K : PySem.W.Frag} {H B : Hp} {Q : VK} {F : Ent} {L L1 L2 : Led}
theorem v_add {i j : Int} (k : Q (.int (i + j)) H) : OpU P w K (binaryOp .Add) (.int i) (.int j) H Q := .of (fun _ al => op_add) ⟨i, j, rfl, rfl, k⟩
theorem v_sub {i j : Int} (k : Q (.int (i - j)) H) : OpU P w K (binaryOp .Sub) (.int i) (.int j) H Q := .of (fun _ al => op_sub) ⟨i, j, rfl, rfl, k⟩
theorem v_mul {i j : Int} (h : CMul i j) (k : Q (.int (i * j)) H) : OpU P w K (binaryOp .Mult) (.int i) (.int j) H Q := .of (fun _ al => op_mul) ⟨i, j, rfl, rfl, h, k⟩
theorem v_mod {i j : Int} (h : 0 < j) (k : Q (.int (i % j)) H) : OpU P w K (binaryOp .Mod) (.int i) (.int j) H Q := .of (fun _ al => op_mod) ⟨i, j, rfl, rfl, h, k⟩
theorem v_fdiv {i j : Int} (h : CDiv i j) (k : Q (.int (i / j)) H) : OpU P w K (binaryOp .FloorDiv) (.int i) (.int j) H Q := .of (fun _ al => op_fdiv) ⟨i, j, rfl, rfl, h, k⟩
theorem v_pow {i j : Int} (h : CPow i j) (k : Q (.int (i ^ j.toNat)) H) : OpU P w K (binaryOp .Pow) (.int i) (.int j) H Q := .of (fun _ al => op_pow) ⟨i, j, rfl, rfl, h, k⟩
theorem v_lt {i j : Int} (k : Q (.bl (decide (i < j))) H) : OpU P w K (compareOp .Lt) (.int i) (.int j) H Q := .of (fun _ al => op_lt) ⟨i, j, rfl, rfl, k⟩
theorem v_le {i j : Int} (k : Q (.bl (decide (i ≤ j))) H) : OpU P w K (compareOp .LtE) (.int i) (.int j) H Q := .of (fun _ al => op_le) ⟨i, j, rfl, rfl, k⟩
theorem v_gt {i j : Int} (k : Q (.bl (decide (j < i))) H) : OpU P w K (compareOp .Gt) (.int i) (.int j) H Q := .of (fun _ al => op_gt) ⟨i, j, rfl, rfl, k⟩
theorem v_ge {i j : Int} (k : Q (.bl (decide (j ≤ i))) H) : OpU P w K (compareOp .GtE) (.int i) (.int j) H Q := .of (fun _ al => op_ge) ⟨i, j, rfl, rfl, k⟩
theorem dec_i {i j : Int} : decide (V.int i = V.int j) = decide (i = j) := by
  by_cases h : i = j
  · subst h; simp
  · rw [decide_eq_false h]; exact decide_eq_false fun z => h (by injection z)
theorem dec_s {i j : Str} : decide (V.str i = V.str j) = decide (i = j) := by
  by_cases h : i = j
  · subst h; simp
  · rw [decide_eq_false h]; exact decide_eq_false fun z => h (by injection z)
theorem v_eqI {i j : Int} (k : Q (.bl (decide (i = j))) H) : OpU P w K (compareOp .Eq) (.int i) (.int j) H Q := .of (fun _ al => op_eq) ⟨rfl, by rw [dec_i]; exact k⟩
theorem v_eqS {i j : Str} (k : Q (.bl (decide (i = j))) H) : OpU P w K (compareOp .Eq) (.str i) (.str j) H Q := .of (fun _ al => op_eq) ⟨rfl, by rw [dec_s]; exact k⟩
theorem v_neI {i j : Int} (k : Q (.bl (!decide (i = j))) H) : OpU P w K (compareOp .NotEq) (.int i) (.int j) H Q := .of (fun _ al => op_ne) ⟨rfl, by rw [dec_i]; exact k⟩
theorem v_neS {i j : Str} (k : Q (.bl (!decide (i = j))) H) : OpU P w K (compareOp .NotEq) (.str i) (.str j) H Q := .of (fun _ al => op_ne) ⟨rfl, by rw [dec_s]; exact k⟩
theorem v_inSign {c : Nat} {z : Str} (k : Q (.bl (decide (c ∈ z.cps.toList))) H) : OpU P w K (compareOp .In) (.str ⟨#[c]⟩) (.str z) H Q := .of (fun _ al => op_in_sign) ⟨c, z, rfl, rfl, k⟩
end
section
variable {X : Cx} {P : Program} {w : World} {K : PySem.W.Frag} {H B : Hp} {Q : VK}
theorem op_dIn (hu : X.A.units + 1 < cLine) : OpR X (compareOp .In) (fun x y H Q => ∃ a o, y = .ref a ∧ DGet H a x o ∧ Q (.bl o.isSome) H) := by
  intro pins s σ H x y v u Q I rx ry h
  obtain ⟨a, o, rfl, g, q⟩ := h
  obtain rfl : u = Value.ref a := ry
  exact d_in hu I g rx fun s' I' => ⟨.bl o.isSome, H, I', rfl, q⟩
theorem op_dNotIn (hu : X.A.units + 1 < cLine) : OpR X (compareOp .NotIn) (fun x y H Q => ∃ a o, y = .ref a ∧ DGet H a x o ∧ Q (.bl (!o.isSome)) H) := by
  intro pins s σ H x y v u Q I rx ry h
  obtain ⟨a, o, rfl, g, q⟩ := h
  obtain rfl : u = Value.ref a := ry
  exact d_notIn hu I g rx fun s' I' => ⟨.bl (!o.isSome), H, I', rfl, q⟩
theorem ix_dict (hu : X.A.units + 1 < cLine) : IxR X (fun x y H Q => ∃ a v, x = .ref a ∧ DGet H a y (some v) ∧ Q v H) := by
  intro value slice pins s σ H x y v u Q I rx ry h hs
  obtain ⟨a, w, rfl, g, q⟩ := h
  obtain rfl : v = Value.ref a := rx
  have hT := dict_typeIs I g
  unfold subscriptTail
  refine wpAny_bind ?_
  rw [getitemInPython_of_ne hT.not_modules]
  refine wpAny_bind (wpAny_specialOf hT PySem.F.slot_dict_getitem.lookup ?_)
  have fin : wpAny (model X.prog X.w) X.A (subscripted slice false (.ref a) u) (fun r s₃ => wpAny (model X.prog X.w) X.A (letTemporaryGo value (.ref a) r >>= fun _ => pure r) (EP X pins σ Q) X.xe s₃) X.xe s := by
    rw [hs]
    exact wpAny_operating (wpAny_mono (d_getItem hu I g ry fun w' s' I' r' => show EP X pins σ Q w' s' from ⟨w, H, I', r', q⟩) (fun r s₃ h₃ => wpAny_bind (wpAny_letTemporaryGo (wpAny_pure h₃))) fun _ _ x => x)
  first
    | exact wpAny_pure (wpAny_bind fin)
    | exact wpAny_bind (wpAny_pure (wpAny_bind fin))
    | exact wpAny_bind fin
theorem set_dict (hu : X.A.units + 1 < cLine) : PSet X (fun o i v H Q => ∃ a H', o = .ref a ∧ DPut H a i v H' ∧ Q H') := by
  intro pins s σ H o i v ov iv u Q I ro ri rv h
  obtain ⟨a, H', rfl, g, q⟩ := h
  obtain rfl : ov = Value.ref a := ro
  exact d_setItem hu I g ri rv fun s' I' => ⟨H', I', q⟩
theorem mt_get (hu : X.A.units + 1 < cLine) : MtR X "dict.get" (fun x xs H Q => ∃ a y d o, x = .ref a ∧ xs = [y, d] ∧ DGet H a y o ∧ Q (o.getD d) H) := by
  intro pins s σ H x xs v us Q I rx rs h
  obtain ⟨a, y, d, o, rfl, rfl, g, q⟩ := h
  obtain rfl : v = Value.ref a := rx
  obtain ⟨u, w, rfl, r1, r2⟩ := vals2 rs
  exact d_get2 hu I g r1 r2 fun w' s' I' r' => ⟨_, H, I', r', q⟩
end

/-! ### calls of one's own -/
section
variable {P : Program} {w : World} {K : PySem.W.Frag} {mg : Str → Option Value} {base : Heap}
def FnG (P : Program) (w : World) (K : PySem.W.Frag) (mg : Str → Option Value) (base : Heap) (k : Nat) (x : Str) (ps : List Str) (sp : Sp) : Prop :=
  ∃ f fd, FnOk P w K mg base CX0 k f fd ps sp ∧ mg x = some (.ref f) ∧ PySem.W.keepIn K (.ref f) = true ∧ Binds K fd ps []
def MtG (P : Program) (w : World) (K : PySem.W.Frag) (mg : Str → Option Value) (base : Heap) (k : Nat) (C : Addr) (m : Str) (ps : List Str) (sp : Sp) : Prop :=
  ∃ f fd, FnOk P w K mg base CX0 k f fd ps sp ∧ Meth K C m f ∧ Binds K fd ps [] ∧ Cls K C
def MkG (P : Program) (w : World) (K : PySem.W.Frag) (mg : Str → Option Value) (base : Heap) (k : Nat) (C : Addr) (x : Str) (ps : List Str) (sp : Sp) : Prop :=
  ∃ f fd, FnOk P w K mg base CX0 k f fd ps sp ∧ Mk K C f ∧ mg x = some (.ref C) ∧ Binds K fd ps []
def tFn (sp : Sp) (t : TA) : TE := fun σ H Q => t σ H fun vs H1 => sp vs H1 Q E0
def tMth (C : Addr) (m : Str) (sp : Sp) (ta : TE) (t : TA) : TE := fun σ H Q => ta σ H fun x H1 => ∃ a dx fs, x = .ref a ∧ H1 a = some (.ins C dx fs) ∧ fs.lookup m = none ∧
  t σ H1 fun vs H2 => sp (x :: vs) H2 Q E0
def tMk (C : Addr) (sp : Sp) (t : TA) : TE := fun σ H Q => t σ H fun vs H1 => ∀ x dx, H1 x = none → H1 dx = none → dx ≠ x →
  sp (.ref x :: vs) (upd (upd H1 dx (.own x)) x (.ins C dx [])) (fun v H2 => v = .non ∧ Q (.ref x) H2) E0
theorem tFn_eq {sp : Sp} {t : TA} : tCall sp [] E0 t = tFn sp t := by
  unfold tCall tFn
  simp only [List.append_nil]
theorem tMth_eq {C : Addr} {m : Str} {sp : Sp} {ta : TE} {t : TA} : tMeth C m sp [] E0 ta t = tMth C m sp ta t := by
  unfold tMeth tMth
  simp only [List.append_nil]
theorem tMk_eq {C : Addr} {sp : Sp} {t : TA} : tMake C sp [] E0 t = tMk C sp t := by
  unfold tMake tMk
  simp only [List.append_nil]
variable {X : Cx} {k : Nat} {C : Addr} {x m : Str} {ps : List Str} {sp : Sp} {e o : Expr} {es : List Expr} {p pos apos : Pos} {t : TA} {ta : TE}
theorem pe_fn (G : FnG X.prog X.w X.K X.mg X.base k x ps sp) (hr : Room k X.A) (hg : Gl X x) (ha : PA X (e :: es) t) (hdb : (x == ("__debug__" : Str)) = false := by decide)
    (he : starEach (e :: es) X.env = (false, eval e X.env) :: starEach es X.env := by rfl) (hpl : (backTo pos (starEach es X.env)).any (·.1) = false := by rfl) : PE X (.Call (.Name x p) (e :: es) [] pos) (tFn sp t) := by
  obtain ⟨f, fd, F, hm, hk, hb⟩ := G
  rw [← tFn_eq]
  exact pe_call F hr hg hm hk hb .nil pass0 ha hdb he hpl
theorem pe_mth {pl : Sem Bool} (G : MtG X.prog X.w X.K X.mg X.base k C m ps sp) (hr : Room k X.A) (ho : PE X o ta) (ha : PA X (e :: es) t)
    (hst : starEach (e :: es) X.env = (false, eval e X.env) :: starEach es X.env := by rfl) (hpl : (backTo pos (starEach es X.env)).any (·.1) = false := by rfl)
    (ht : eval (.Call (.Attribute o m apos) (e :: es) [] pos) X.env = (do
      let ov ← eval o X.env
      standAt apos.atName
      let (f, first) ← holding [ov] (getMethod ov m pl)
      callWith pos f first (backTo pos (starEach (e :: es) X.env)) (backToKw pos (keywordEach [] X.env))) := by rfl) : PE X (.Call (.Attribute o m apos) (e :: es) [] pos) (tMth C m sp ta t) := by
  obtain ⟨f, fd, F, hm, hb, c⟩ := G
  rw [← tMth_eq]
  exact pe_meth ho c hm F hr hb .nil pass0 ha hst hpl ht
theorem pe_mth0 {pl : Sem Bool} (G : MtG X.prog X.w X.K X.mg X.base k C m ps sp) (hr : Room k X.A) (ho : PE X o ta)
    (ht : eval (.Call (.Attribute o m apos) [] [] pos) X.env = (do
      let ov ← eval o X.env
      standAt apos.atName
      let (f, first) ← holding [ov] (getMethod ov m pl)
      callWith pos f first (backTo pos (starEach [] X.env)) (backToKw pos (keywordEach [] X.env))) := by rfl) : PE X (.Call (.Attribute o m apos) [] [] pos) (tMth C m sp ta tNil) := by
  obtain ⟨f, fd, F, hm, hb, c⟩ := G
  rw [← tMth_eq]
  exact pe_meth0 ho c hm F hr hb .nil pass0 ht
theorem pe_mk (G : MkG X.prog X.w X.K X.mg X.base k C x ps sp) (hr : Room (k + 1) X.A) (hg : Gl X x) (ha : PA X (e :: es) t) (hdb : (x == ("__debug__" : Str)) = false := by decide)
    (he : starEach (e :: es) X.env = (false, eval e X.env) :: starEach es X.env := by rfl) (hpl : (backTo pos (starEach es X.env)).any (·.1) = false := by rfl) : PE X (.Call (.Name x p) (e :: es) [] pos) (tMk C sp t) := by
  obtain ⟨f, fd, F, M, hm, hb⟩ := G
  rw [← tMk_eq]
  exact pe_make M F hr hg hm hb .nil pass0 ha hdb he hpl
theorem r_fn {σ : L2.St} {H : Hp} {Q : VK} (k : t σ H fun vs H1 => sp vs H1 Q E0) : tFn sp t σ H Q := k
end
end WK
namespace WK
open PySem PySem.Spec PyProof.Rows L2
/-! ### globals -/
def GlI (mg : Str → Option Value) (x : Str) (i : Int) : Prop := ∃ t, mg x = some (.int i t)
def GlS (mg : Str → Option Value) (x : Str) (z : Str) : Prop := ∃ t, mg x = some (.str z t)
def GlV (mg : Str → Option Value) (x : Str) (v : V) : Prop := ∃ u, mg x = some u ∧ RelV v u
section
variable {X : Cx} {x : Str} {pos : Pos}
theorem pe_gi {i : Int} (h : GlI X.mg x i) (hg : Gl X x) (hd : (x == ("__debug__" : Str)) = false := by decide) : PE X (.Name x pos) (tC (.int i)) := by
  obtain ⟨t, e⟩ := h
  exact pe_glob hg e ⟨t, rfl⟩ hd
theorem pe_gs {z : Str} (h : GlS X.mg x z) (hg : Gl X x) (hd : (x == ("__debug__" : Str)) = false := by decide) : PE X (.Name x pos) (tC (.str z)) := by
  obtain ⟨t, e⟩ := h
  exact pe_glob hg e ⟨t, rfl⟩ hd
theorem pe_gv {v : V} (h : GlV X.mg x v) (hg : Gl X x) (hd : (x == ("__debug__" : Str)) = false := by decide) : PE X (.Name x pos) (tC v) := by
  obtain ⟨u, e, r⟩ := h
  exact pe_glob hg e r hd
end
theorem b_len : bootBuiltins "len" = some (.builtin "len") := by decide +kernel
theorem b_sum : bootBuiltins "sum" = some (.builtin "sum") := by decide +kernel
theorem b_all : bootBuiltins "all" = some (.builtin "all") := by decide +kernel
theorem b_max : bootBuiltins "max" = some (.builtin "max") := by decide +kernel
theorem b_min : bootBuiltins "min" = some (.builtin "min") := by decide +kernel
theorem b_isinstance : bootBuiltins "isinstance" = some (.builtin "isinstance") := by decide +kernel
theorem b_int : bootBuiltins "int" = some (.type "int") := by decide +kernel
theorem b_list : bootBuiltins "list" = some (.type "list") := by decide +kernel
theorem b_tuple : bootBuiltins "tuple" = some (.type "tuple") := by decide +kernel
theorem b_set : bootBuiltins "set" = some (.type "set") := by decide +kernel
theorem b_dict : bootBuiltins "dict" = some (.type "dict") := by decide +kernel
/-! ### more by values -/
section
variable {P : Program} {w : World} {K : PySem.W.Frag} {H B : Hp} {Q : VK} {F : Ent} {L L1 L2 : Led}
theorem v_ixL {p : Addr} {xs : List V} {i : Int} {v : V} (h : SqL K H p xs) (ha : atI xs i = some v) (k : Q v H) : IxU P w K (.ref p) (.int i) H Q := .ofK (r := rIxL) (fun _ _ => ix_list) ⟨p, xs, i, v, rfl, rfl, h, ha, k⟩
theorem v_ixT {p : Addr} {xs : List V} {i : Int} {v : V} (h : SqT K H p xs) (ha : atI xs i = some v) (k : Q v H) : IxU P w K (.ref p) (.int i) H Q := .ofK (r := rIxT) (fun _ _ => ix_tup) ⟨p, xs, i, v, rfl, rfl, h, ha, k⟩
theorem v_ixD {p : Addr} {y v : V} (h : DGet H p y (some v)) (k : Q v H) : IxU P w K (.ref p) y H Q := .of (fun _ al => ix_dict al.hu) ⟨p, v, rfl, h, k⟩
theorem v_getD {p : Addr} {y v : V} (h : DGet H p y (some v)) (k : Q v H) : GetU P w K (.ref p) y H Q := by
  intro X pins s σ ov iv al I r1 r2
  obtain rfl : ov = Value.ref p := r1
  exact d_getItem al.hu I h r2 fun w' s' I' r' => ⟨v, H, I', r', k⟩
theorem v_setD {p : Addr} {y v : V} {H' : Hp} {Q : Hp → Prop} (h : DPut H p y v H') (k : Q H') : SetU P w K (.ref p) y v H Q := .of (fun _ al => set_dict al.hu) ⟨p, H', rfl, h, k⟩
theorem v_inD {p : Addr} {y : V} {o : Option V} (h : DGet H p y o) (k : Q (.bl o.isSome) H) : OpU P w K (compareOp .In) y (.ref p) H Q := .of (fun _ al => op_dIn al.hu) ⟨p, o, rfl, h, k⟩
theorem v_notInD {p : Addr} {y : V} {o : Option V} (h : DGet H p y o) (k : Q (.bl (!o.isSome)) H) : OpU P w K (compareOp .NotIn) y (.ref p) H Q := .of (fun _ al => op_dNotIn al.hu) ⟨p, o, rfl, h, k⟩
theorem v_get2 {p : Addr} {y d : V} {o : Option V} (h : DGet H p y o) (k : Q (o.getD d) H) : MetU P w K "dict.get" (.ref p) [y, d] H Q := .of (fun _ al => mt_get al.hu) ⟨p, y, d, o, rfl, rfl, h, k⟩
theorem v_cat {p q : Addr} {xs zs : List V} (S : Ok F B L H) (h1 : H p = some (.lst xs)) (h2 : H q = some (.lst zs)) (hz : xs.length + zs.length ≤ sizeLine) (k : ∀ r H', Ok F B ((r, .lst (xs ++ zs)) :: L) H' → Q (.ref r) H') : OpU P w K (binaryOp .Add) (.ref p) (.ref q) H Q :=
  .of (fun _ _ => op_cat) ⟨p, q, xs, zs, rfl, rfl, h1, h2, hz, fun r hr => k r _ (S.newL hr)⟩
theorem v_len {x : V} {n : Nat} (h : LenV K x H n) (k : Q (.int n) H) : CallU P w K (.builtin "len") [x] H Q := .ofK (r := fun K xs H Q => ∃ x n, xs = [x] ∧ LenV K x H n ∧ Q (.int n) H) (fun _ _ => call_len) ⟨x, n, rfl, h, k⟩
theorem v_max2 {i j : Int} (k : Q (.int (if j > i then j else i)) H) : CallU P w K (.builtin "max") [.int i, .int j] H Q := .of (fun _ al => call_max2 al.calm) ⟨i, j, rfl, k⟩
theorem v_min2 {i j : Int} (k : Q (.int (if j < i then j else i)) H) : CallU P w K (.builtin "min") [.int i, .int j] H Q := .of (fun _ al => call_min2 al.calm) ⟨i, j, rfl, k⟩
theorem v_listOf {p : Addr} {xs : List V} (S : Ok F B L H) (h : SqL K H p xs ∨ SqT K H p xs) (k : ∀ r H', Ok F B ((r, .lst xs) :: L) H' → Q (.ref r) H') : CallU P w K (.type "list") [.ref p] H Q :=
  .ofK (r := fun K vs H Q => ∃ p ys, vs = [.ref p] ∧ (SqL K H p ys ∨ SqT K H p ys) ∧ ∀ l, H l = none → Q (.ref l) (upd H l (.lst ys))) (fun _ _ => call_list_of) ⟨p, xs, rfl, h, fun l hl => k l _ (S.newL hl)⟩
end
/-! new things -/
section
variable {σ : L2.St} {H B : Hp} {Q : VK} {F : Ent} {L : Led} {t : TA}
def NewT (xs : List V) (H : Hp) (Q : VK) : Prop := xs.length ≤ sizeLine ∧ ∀ p, H p = none → Q (.ref p) (upd H p (.tup xs))
def NewL (xs : List V) (H : Hp) (Q : VK) : Prop := xs.length ≤ sizeLine ∧ ∀ p, H p = none → Q (.ref p) (upd H p (.lst xs))
theorem r_tup (k : t σ H fun xs H1 => NewT xs H1 Q) : tTup t σ H Q := k
theorem r_lst (k : t σ H fun xs H1 => NewL xs H1 Q) : tLst t σ H Q := k
theorem new_tup {xs : List V} (S : Ok F B L H) (hz : xs.length ≤ sizeLine) (k : ∀ p B' H', Ex B B' → B' p = some (.tup xs) → Ok F B' L H' → Q (.ref p) H') : NewT xs H Q :=
  ⟨hz, fun p hp => k p _ _ (S.exB hp) upd_same (S.newB hp)⟩
theorem new_lst {xs : List V} (S : Ok F B L H) (hz : xs.length ≤ sizeLine) (k : ∀ p H', Ok F B ((p, .lst xs) :: L) H' → Q (.ref p) H') : NewL xs H Q :=
  ⟨hz, fun p hp => k p _ (S.newL hp)⟩
theorem new_dK (S : Ok F B L H) (k : ∀ p H', Ok F B ((p, .dK []) :: L) H' → Q (.ref p) H') : tDNewK σ H Q := fun p hp => k p _ (S.newL hp)
end
theorem Ok.sub {F : Ent} {B H : Hp} {L1 L2 : Led} (S : Ok F B (L1 ++ L2) H) : Ok ⟨B, H, L1.map (·.1)⟩ B L1 H :=
  Ok.start S.ex (by have := S.nd; rw [List.map_append, List.nodup_append] at this; exact this.1) fun q hq => S.own q (List.mem_append_left _ hq)
end WK
namespace WK
open PySem PySem.Spec PyProof.Rows L2
theorem with_al {P : Program} {w : World} {K : PySem.W.Frag} {X : Cx} {k : Nat} {sts : List Stmt} {D : Ends} {σ : L2.St} {H : Hp} (hr : Room k X.A) (h : Al P w K X → ∃ t, PSs X sts t ∧ t D σ H) (h1 : X.prog = P := by rfl) (h2 : X.w = w := by rfl) (h3 : X.K = K := by rfl) (h4 : X.calm = true := by rfl) :
    ∃ t, PSs X sts t ∧ t D σ H := h (al_of hr h1 h2 h3 h4)
section
variable {P : Program} {w : World} {K : PySem.W.Frag} {σ : L2.St} {H : Hp} {D : Ends} {g : TG} {tb : TS} {tg : Expr} {te : TE}
theorem forL {a : Addr} {xs : List V} (hx : SqL K H a xs) (Pv : Nat → L2.St → Hp → Prop) (hl : ∀ i σ H, i ≤ xs.length → Pv i σ H → SqL K H a xs) (h0 : Pv 0 σ H)
    (hs : ∀ i x σ H, xs[i]? = some x → Pv i σ H → g x σ H fun σ2 H2 => tb { D with nx := Pv (i + 1), ct := Pv (i + 1), bk := D.nx } σ2 H2) (hd : ∀ σ H, Pv xs.length σ H → D.nx σ H) :
    ItU P w K tg (.ref a) H fun J H1 => ∃ W : Nat → Nat → L2.St → Hp → Prop, (∃ m, W 0 m σ H1) ∧ ∀ i m σ H, W i m σ H →
      (J.stop i H ∧ D.nx σ H) ∨ (J.go i H ∧ ∃ N : L2.St → Hp → Prop, (∀ σ' H', N σ' H' → ∃ m', m' < m ∧ W (i + 1) m' σ' H') ∧ ∀ x H', J.yld i H x H' → g x σ H' fun σ2 H2 => tb { D with nx := N, ct := N, bk := D.nx } σ2 H2) :=
  .list hx (for_list Pv h0 hl hs hd)
theorem forT {a : Addr} {xs : List V} (hx : SqT K H a xs) (Pv : Nat → L2.St → Hp → Prop) (hl : ∀ i σ H, i ≤ xs.length → Pv i σ H → SqT K H a xs) (h0 : Pv 0 σ H)
    (hs : ∀ i x σ H, xs[i]? = some x → Pv i σ H → g x σ H fun σ2 H2 => tb { D with nx := Pv (i + 1), ct := Pv (i + 1), bk := D.nx } σ2 H2) (hd : ∀ σ H, Pv xs.length σ H → D.nx σ H) :
    ItU P w K tg (.ref a) H fun J H1 => ∃ W : Nat → Nat → L2.St → Hp → Prop, (∃ m, W 0 m σ H1) ∧ ∀ i m σ H, W i m σ H →
      (J.stop i H ∧ D.nx σ H) ∨ (J.go i H ∧ ∃ N : L2.St → Hp → Prop, (∀ σ' H', N σ' H' → ∃ m', m' < m ∧ W (i + 1) m' σ' H') ∧ ∀ x H', J.yld i H x H' → g x σ H' fun σ2 H2 => tb { D with nx := N, ct := N, bk := D.nx } σ2 H2) :=
  .tup hx (for_tup Pv h0 hl hs hd)
end
end WK
namespace WK
open PySem PySem.Spec PyProof.Rows L2
section
variable {P : Program} {w : World} {K : PySem.W.Frag} {H B : Hp} {Q : VK} {F : Ent} {L L1 L2 : Led} {a : Addr} {xs : List V} {o : HO}
theorem Ok.mem (S : Ok F B L H) (h : (a, o) ∈ L) : H a = some o := (S.own _ h).1
theorem Ok.sqMem (S : Ok F B L H) (h : (a, HO.lst xs) ∈ L) : SqL K H a xs := .inl (.inl (S.own _ h).1)
theorem Ok.sqStay (S : Ok F B L H) (h : B a = some (.lst xs)) : SqL K H a xs := .inl (.inl (S.ex _ _ h))
theorem Ok.tqStay (S : Ok F B L H) (h : B a = some (.tup xs)) : SqT K H a xs := .inl (.inl (S.ex _ _ h))
theorem Ok.stay (S : Ok F B L H) (h : B a = some o) : H a = some o := S.ex _ _ h
theorem Ok.dp {v : V} {d : PyData} (S : Ok F B L H) (h : Dp K B v d) : Dp K H v d := h.up S.ex
theorem v_lenL (h : SqL K H a xs) (k : Q (.int xs.length) H) : CallU P w K (.builtin "len") [.ref a] H Q := v_len (.inl ⟨xs, h, rfl⟩) k
theorem v_lenT (h : SqT K H a xs) (k : Q (.int xs.length) H) : CallU P w K (.builtin "len") [.ref a] H Q := v_len (.inr ⟨xs, h, rfl⟩) k
theorem v_lenS {z : Str} (h : z.length ≤ sizeLine) (k : Q (.int z.length) H) : CallU P w K (.builtin "len") [.str z] H Q := v_len (n := z.length) ⟨h, rfl⟩ k
/-- an item of known data -/
theorem v_ixDT {v : V} {ds : List PyData} {d : PyData} {i : Int} {j : Nat} (S : Ok F B L H) (h : Dp K B v (.tuple ds)) (hi : i = (j : Int)) (hj : ds[j]? = some d) (k : ∀ u, Dp K B u d → Q u H) : IxU P w K v (.int i) H Q := by
  obtain ⟨a, xs, rfl, hq, ha⟩ := Dp.tup_inv h
  obtain ⟨u, hu, hd⟩ := ha.get' hj
  subst hi
  exact v_ixT (S.tqB hq) (atI_nat hu) (k u hd)
theorem v_ixDL {v : V} {ds : List PyData} {d : PyData} {i : Int} {j : Nat} (S : Ok F B L H) (h : Dp K B v (.list ds)) (hi : i = (j : Int)) (hj : ds[j]? = some d) (k : ∀ u, Dp K B u d → Q u H) : IxU P w K v (.int i) H Q := by
  obtain ⟨a, xs, rfl, hq, ha⟩ := Dp.lst_inv h
  obtain ⟨u, hu, hd⟩ := ha.get' hj
  subst hi
  exact v_ixL (S.sqB hq) (atI_nat hu) (k u hd)
theorem ixN_of {n j : Nat} {i : Int} (e : i = (j : Int)) (h : j < n) : ixN n i = some j := by
  subst e
  unfold ixN
  rw [if_pos (by omega), if_pos (by omega)]
  simp
theorem Ok.swap {p q : Addr × HO} (S : Ok F B (p :: q :: L) H) : Ok F B (q :: p :: L) H := S.perm (.swap ..)
end
end WK
namespace WK
open PySem PySem.Spec PyProof.Rows L2
section
variable {P : Program} {w : World} {K : PySem.W.Frag} {H B : Hp} {Q : VK} {F : Ent} {L L1 L2 : Led} {a p : Addr} {xs : List V} {o o' : HO}
theorem Ok.mutN (S : Ok F B L H) (n : Nat) (h : L[n]? = some (p, o)) : Ok F B (L.set n (p, o')) (upd H p o') := by
  obtain ⟨hn, e⟩ := List.getElem?_eq_some_iff.mp h
  have e1 : L = L.take n ++ (p, o) :: L.drop (n + 1) := by rw [← e, List.getElem_cons_drop, List.take_append_drop]
  have e2 : L.set n (p, o') = L.take n ++ (p, o') :: L.drop (n + 1) := by rw [List.set_eq_take_append_cons_drop, if_pos hn]
  rw [e2]
  rw [e1] at S
  exact S.mutAt
theorem v_appendN {y : V} (n : Nat) (S : Ok F B L H) (h : L[n]? = some (p, .lst xs)) (hz : xs.length < sizeLine) (k : ∀ H', Ok F B (L.set n (p, .lst (xs ++ [y]))) H' → Q .non H') : MetU P w K "list.append" (.ref p) [y] H Q :=
  .of (fun _ _ => mt_append) ⟨p, xs, y, rfl, rfl, (S.own _ (List.mem_of_getElem? h)).1, hz, k _ (S.mutN n h)⟩
theorem v_setLN {i : Int} {j : Nat} {y : V} {Q : Hp → Prop} (n : Nat) (S : Ok F B L H) (h : L[n]? = some (p, .lst xs)) (hj : ixN xs.length i = some j) (k : ∀ H', Ok F B (L.set n (p, .lst (xs.set j y))) H' → Q H') : SetU P w K (.ref p) (.int i) y H Q :=
  .of (fun _ _ => set_list) ⟨p, xs, i, j, rfl, rfl, (S.own _ (List.mem_of_getElem? h)).1, hj, k _ (S.mutN n h)⟩
theorem v_setKN {kvs : List (Key × V)} {y v : V} {k : Key} {Q : Hp → Prop} (n : Nat) (S : Ok F B L H) (h : L[n]? = some (p, .dK kvs)) (hy : y = kV k) (hz : kvs.length < sizeLine) (q : ∀ H', Ok F B (L.set n (p, .dK (putK kvs k v))) H' → Q H') : SetU P w K (.ref p) y v H Q := by
  subst hy
  exact v_setD (DPut.k (S.own _ (List.mem_of_getElem? h)).1 hz) (q _ (S.mutN n h))
end
end WK
namespace WK
open PySem PySem.Spec PyProof.Rows L2
section
variable {F : Ent} {B B0 H H0 : Hp} {L : Led} {a : Addr} {o : HO}
/-- what stood at an entry whose own things may not change -/
theorem Ok.kept (S : Ok ⟨B0, H0, []⟩ B L H) (h : H0 a = some o) : H a = some o := S.keep a o h (by simp)
theorem Ok.keptRd (S : Ok ⟨B0, H0, []⟩ B L H) (h : Rd H0 a o) : Rd H a o := by
  rcases h with h | ⟨u, h⟩
  · exact .inl (S.kept h)
  · exact .inr ⟨u, S.kept h⟩
theorem dgetS {kvs : List (Key × V)} {k : Str} (e : Rd H a (.dK kvs)) : DGet H a (.str k) (valV kvs (.inr k)) := .inl ⟨kvs, .inr k, e, rfl, rfl⟩
theorem dgetI {kvs : List (Key × V)} {k : Int} (e : Rd H a (.dK kvs)) : DGet H a (.int k) (valV kvs (.inl k)) := .inl ⟨kvs, .inl k, e, rfl, rfl⟩
end
end WK
namespace WK
open PySem PySem.Spec PyProof.Rows L2
section
variable {P : Program} {w : World} {K : PySem.W.Frag} {F : Ent} {B H : Hp} {L : Led} {a : Addr} {o : HO} {od : Obj} {Q : VK} {kvs : List (Key × V)}
theorem Ok.rdMem (S : Ok F B L H) (h : (a, o) ∈ L) : Rd H a o := .inl (S.own _ h).1
theorem Ok.rdMemF (S : Ok F B L H) (h : (a, HO.frz od o) ∈ L) : Rd H a o := .inr ⟨od, (S.own _ h).1⟩
theorem Ok.rdStay (S : Ok F B L H) (h : B a = some o) : Rd H a o := .inl (S.ex _ _ h)
theorem Ok.rdStayF (S : Ok F B L H) (h : B a = some (.frz od o)) : Rd H a o := .inr ⟨od, S.ex _ _ h⟩
theorem v_inDS {z : Str} (h : Rd H a (.dK kvs)) (k : Q (.bl (valV kvs (.inr z)).isSome) H) : OpU P w K (compareOp .In) (.str z) (.ref a) H Q := v_inD (dgetS h) k
theorem v_notInDS {z : Str} (h : Rd H a (.dK kvs)) (k : Q (.bl (!(valV kvs (.inr z)).isSome)) H) : OpU P w K (compareOp .NotIn) (.str z) (.ref a) H Q := v_notInD (dgetS h) k
theorem v_ixDS {z : Str} {v : V} (h : Rd H a (.dK kvs)) (e : valV kvs (.inr z) = some v) (k : Q v H) : IxU P w K (.ref a) (.str z) H Q := v_ixD (by rw [← e]; exact dgetS h) k
theorem v_ixDI {z : Int} {v : V} (h : Rd H a (.dK kvs)) (e : valV kvs (.inl z) = some v) (k : Q v H) : IxU P w K (.ref a) (.int z) H Q := v_ixD (by rw [← e]; exact dgetI h) k
theorem v_getDS {z : Str} {v : V} (h : Rd H a (.dK kvs)) (e : valV kvs (.inr z) = some v) (k : Q v H) : GetU P w K (.ref a) (.str z) H Q := v_getD (by rw [← e]; exact dgetS h) k
theorem v_get2S {z : Str} {d : V} (h : Rd H a (.dK kvs)) (k : Q ((valV kvs (.inr z)).getD d) H) : MetU P w K "dict.get" (.ref a) [.str z, d] H Q := v_get2 (dgetS h) k
theorem v_get2I {z : Int} {d : V} (h : Rd H a (.dK kvs)) (k : Q ((valV kvs (.inl z)).getD d) H) : MetU P w K "dict.get" (.ref a) [.int z, d] H Q := v_get2 (dgetI h) k
theorem v_ipAdd {i j : Int} (k : Q (.int (i + j)) H) : IpU P w K .Add (.int i) (.int j) H Q := .of (fun _ _ => ip_add) ⟨i, j, rfl, rfl, k⟩
theorem v_ipSub {i j : Int} (k : Q (.int (i - j)) H) : IpU P w K .Sub (.int i) (.int j) H Q := .of (fun _ _ => ip_sub) ⟨i, j, rfl, rfl, k⟩
theorem valV_some_iff {κ : Type} [DecidableEq κ] {kvs : List (κ × V)} {k : κ} : (valV kvs k).isSome = true ↔ k ∈ kvs.map (·.1) := by
  unfold valV
  rw [Option.isSome_map, List.find?_isSome]
  simp only [decide_eq_true_eq, List.mem_map]
theorem valV_isSome_false {κ : Type} [DecidableEq κ] {kvs : List (κ × V)} {k : κ} (h : k ∉ kvs.map (·.1)) : (valV kvs k).isSome = false := by
  cases e : (valV kvs k).isSome with
  | false => rfl
  | true => exact absurd (valV_some_iff.mp e) h
theorem valV_isSome_true {κ : Type} [DecidableEq κ] {kvs : List (κ × V)} {k : κ} (h : k ∈ kvs.map (·.1)) : (valV kvs k).isSome = true := valV_some_iff.mpr h
end
end WK
namespace WK
theorem ifTT {A B : Prop} (k : A) : if true = true then A else B := by rw [if_pos rfl]; exact k
theorem ifFF {A B : Prop} (k : B) : if false = true then A else B := by rw [if_neg Bool.false_ne_true]; exact k
theorem ifNT {A B : Prop} (k : B) : if (!true) = true then A else B := by rw [if_neg (by decide)]; exact k
theorem ifNF {A B : Prop} (k : A) : if (!false) = true then A else B := by rw [if_pos (by decide)]; exact k
theorem ifndT {c : Prop} {inst : Decidable c} {A B : Prop} (h : c) (k : B) : if (!decide c) = true then A else B := by rw [decide_eq_true h]; exact ifNT k
theorem ifndF {c : Prop} {inst : Decidable c} {A B : Prop} (h : ¬ c) (k : A) : if (!decide c) = true then A else B := by rw [decide_eq_false h]; exact ifNF k
end WK
namespace WK
open PySem PySem.Spec PyProof.Rows L2
/-- the slots with one set, written out -/
inductive SlotSet : L2.St → Nat → Option V → L2.St → Prop where
  | zero {x v : Option V} {l : L2.St} : SlotSet (x :: l) 0 v (v :: l)
  | succ {x v : Option V} {l l' : L2.St} {i : Nat} : SlotSet l i v l' → SlotSet (x :: l) (i + 1) v (x :: l')
theorem SlotSet.eq {l l' : L2.St} {i : Nat} {v : Option V} (h : SlotSet l i v l') : l.set i v = l' := by
  induction h with
  | zero => rfl
  | succ _ ih => rw [List.set_cons_succ, ih]
theorem r_nameS {i : Nat} {v : V} {σ σ' : L2.St} {H : Hp} {Q : L2.St → Hp → Prop} (h : SlotSet σ i (some v) σ') (k : Q σ' H) : gName i v σ H Q := by
  unfold gName
  rw [h.eq]
  exact k
end WK

namespace WK
open PySem PySem.Spec PyProof.Rows L2
/-! ### what is walked, told by data -/
def ForW (g : TG) (tb : TS) (D : Ends) (σ : L2.St) : It → Hp → Prop := fun J H1 => ∃ W : Nat → Nat → L2.St → Hp → Prop, (∃ m, W 0 m σ H1) ∧ ∀ i m σ H, W i m σ H →
  (J.stop i H ∧ D.nx σ H) ∨ (J.go i H ∧ ∃ N : L2.St → Hp → Prop, (∀ σ' H', N σ' H' → ∃ m', m' < m ∧ W (i + 1) m' σ' H') ∧ ∀ x H', J.yld i H x H' → g x σ H' fun σ2 H2 => tb { D with nx := N, ct := N, bk := D.nx } σ2 H2)
def LcW (g : TG) (tt : TT) (te : TE) (vs : List Nat) (σ : L2.St) (Q : VK) : It → Hp → Prop := fun J H1 => ∀ D, H1 D = none → ∃ W : Nat → Nat → Hp → Prop, (∃ m, W 0 m (upd H1 D (.lst []))) ∧ ∀ i m H, W i m H →
  (J.stop i H ∧ Q (.ref D) H) ∨ (J.go i H ∧ ∃ Nx : Hp → Prop, (∀ H', Nx H' → ∃ m', m' < m ∧ W (i + 1) m' H') ∧ ∀ x H', J.yld i H x H' → g x (wipe σ vs) H' fun σ2 H2 => wipe σ2 vs = wipe σ vs ∧ tt σ2 H2 fun b H3 =>
    if b = true then te σ2 H3 fun y H4 => ∃ acc, H4 D = some (.lst acc) ∧ acc.length < sizeLine ∧ Nx (upd H4 D (.lst (acc ++ [y]))) else Nx H3)
def DcW (g : TG) (tt : TT) (tk tv : TE) (vs : List Nat) (σ : L2.St) (Q : VK) : It → Hp → Prop := fun J H1 => ∀ D, H1 D = none → ∃ W : Nat → Nat → Hp → Prop, (∃ m, W 0 m (upd H1 D (.dK []))) ∧ ∀ i m H, W i m H →
  (J.stop i H ∧ Q (.ref D) H) ∨ (J.go i H ∧ ∃ Nx : Hp → Prop, (∀ H', Nx H' → ∃ m', m' < m ∧ W (i + 1) m' H') ∧ ∀ x H', J.yld i H x H' → g x (wipe σ vs) H' fun σ2 H2 => wipe σ2 vs = wipe σ vs ∧ tt σ2 H2 fun b H3 =>
    if b = true then tk σ2 H3 fun y H4 => tv σ2 H4 fun z H5 => ∃ kvs k, y = kV k ∧ H5 D = some (.dK kvs) ∧ kvs.length < sizeLine ∧ Nx (upd H5 D (.dK (putK kvs k z))) else Nx H3)
structure Src {α : Type} (J : It) (GB : Hp → Led → Prop) (as : List α) (R : Hp → V → α → Prop) : Prop where
  ex : ∃ (G : Hp → Prop) (Y : Nat → Hp → V → Hp → Prop), Walk J as.length G Y ∧ (∀ F B L H, Ok F B L H → GB B L → G H) ∧
    ∀ F B L i H x H', Ok F B L H → GB B L → Y i H x H' → i < as.length → ∃ a B', as[i]? = some a ∧ Ex B B' ∧ Ok F B' L H' ∧ R B' x a
section
variable {α : Type} {J : It} {GB : Hp → Led → Prop} {as : List α} {R : Hp → V → α → Prop} {F : Ent} {B H H1 : Hp} {L : Led} {σ : L2.St}
/-- what a turn of a loop is to reach -/
def Nxt (F : Ent) (I : L2.St → Hp → Led → Prop) : L2.St → Hp → Prop := fun σ H => ∃ B L, Ok F B L H ∧ I σ B L
theorem Nxt.mk {I : L2.St → Hp → Led → Prop} (S : Ok F B L H) (h : I σ B L) : Nxt F I σ H := ⟨B, L, S, h⟩
/-- what an element of a comprehension is to reach: the new list at D holds acc, then one more -/
def Acc (F : Ent) (I : List V → Hp → Led → Prop) (D : Addr) : VK := fun y H => ∃ acc, H D = some (.lst acc) ∧ acc.length < sizeLine ∧ ∃ acc' B L, Ok F B ((D, .lst acc') :: L) (upd H D (.lst (acc ++ [y]))) ∧ I acc' B L
def Skp (F : Ent) (I : List V → Hp → Led → Prop) (D : Addr) : Hp → Prop := fun H => ∃ acc' B L, Ok F B ((D, .lst acc') :: L) H ∧ I acc' B L
theorem Acc.mk {I : List V → Hp → Led → Prop} {D : Addr} {acc : List V} {y : V} (S : Ok F B ((D, .lst acc) :: L) H) (hz : acc.length < sizeLine) (h : I (acc ++ [y]) B L) : Acc F I D y H :=
  ⟨acc, (S.own _ (List.mem_cons_self ..)).1, hz, _, B, L, S.mut, h⟩
theorem Skp.mk {I : List V → Hp → Led → Prop} {D : Addr} {acc : List V} (S : Ok F B ((D, .lst acc) :: L) H) (h : I acc B L) : Skp F I D H := ⟨acc, B, L, S, h⟩
theorem lcD (src : Src J GB as R) {g : TG} {tt : TT} {te : TE} {vs : List Nat} {Q : VK} (S : Ok F B L H1) (I : Nat → List V → Hp → Led → Prop) (h0 : I 0 [] B L) (hG : ∀ i acc B L D, i ≤ as.length → I i acc B L → GB B ((D, .lst acc) :: L))
    (hs : ∀ i a x acc B0 B L D H, as[i]? = some a → I i acc B0 L → Ex B0 B → Ok F B ((D, .lst acc) :: L) H → R B x a → g x (wipe σ vs) H fun σ2 H2 => wipe σ2 vs = wipe σ vs ∧ tt σ2 H2 fun b H3 =>
      if b = true then te σ2 H3 (Acc F (I (i + 1)) D) else Skp F (I (i + 1)) D H3)
    (hd : ∀ acc B L D H, I as.length acc B L → Ok F B ((D, .lst acc) :: L) H → Q (.ref D) H) :
    LcW g tt te vs σ Q J H1 := by
  intro D hD
  obtain ⟨G, Y, w, h1, h2⟩ := src.ex
  refine lc_it w (fun i H => ∃ acc B L, Ok F B ((D, .lst acc) :: L) H ∧ I i acc B L) ⟨[], B, L, S.newL hD, h0⟩ (fun i H hi ⟨acc, B, L, S, q⟩ => h1 F B _ H S (hG i acc B L D hi q)) (fun i x H H' hi ⟨acc, B, L, S, q⟩ y => ?_) (fun H ⟨acc, B, L, S, q⟩ => hd acc B L D H q S)
  obtain ⟨a, B', e, ex, S', r⟩ := h2 F B _ i H x H' S (hG i acc B L D (Nat.le_of_lt hi) q) y hi
  exact hs i a x acc B B' L D H' e q ex S' r
/-- .. of a dict -/
def AccD (F : Ent) (I : List (Key × V) → Hp → Led → Prop) (D : Addr) (y : V) : VK := fun z H => ∃ kvs k, y = kV k ∧ H D = some (.dK kvs) ∧ kvs.length < sizeLine ∧ ∃ kvs' B L, Ok F B ((D, .dK kvs') :: L) (upd H D (.dK (putK kvs k z))) ∧ I kvs' B L
def SkpD (F : Ent) (I : List (Key × V) → Hp → Led → Prop) (D : Addr) : Hp → Prop := fun H => ∃ kvs' B L, Ok F B ((D, .dK kvs') :: L) H ∧ I kvs' B L
theorem AccD.mk {I : List (Key × V) → Hp → Led → Prop} {D : Addr} {kvs : List (Key × V)} {y z : V} {k : Key} (S : Ok F B ((D, .dK kvs) :: L) H) (e : y = kV k) (hz : kvs.length < sizeLine) (h : I (putK kvs k z) B L) : AccD F I D y z H :=
  ⟨kvs, k, e, (S.own _ (List.mem_cons_self ..)).1, hz, _, B, L, S.mut, h⟩
theorem SkpD.mk {I : List (Key × V) → Hp → Led → Prop} {D : Addr} {kvs : List (Key × V)} (S : Ok F B ((D, .dK kvs) :: L) H) (h : I kvs B L) : SkpD F I D H := ⟨kvs, B, L, S, h⟩
theorem dc_it {n : Nat} {G : Hp → Prop} {Y : Nat → Hp → V → Hp → Prop} (w : Walk J n G Y) {g : TG} {tt : TT} {tk tv : TE} {vs : List Nat} {D : Addr} {Qd : Hp → Prop} (Pv : Nat → Hp → Prop) (h0 : Pv 0 (upd H1 D (.dK []))) (hG : ∀ i H, i ≤ n → Pv i H → G H)
    (hs : ∀ i x H H', i < n → Pv i H → Y i H x H' → g x (wipe σ vs) H' fun σ2 H2 => wipe σ2 vs = wipe σ vs ∧ tt σ2 H2 fun b H3 =>
      if b = true then tk σ2 H3 fun y H4 => tv σ2 H4 fun z H5 => ∃ kvs k, y = kV k ∧ H5 D = some (.dK kvs) ∧ kvs.length < sizeLine ∧ Pv (i + 1) (upd H5 D (.dK (putK kvs k z))) else Pv (i + 1) H3) (hd : ∀ H, Pv n H → Qd H) :
    ∃ W : Nat → Nat → Hp → Prop, (∃ m, W 0 m (upd H1 D (.dK []))) ∧ ∀ i m H, W i m H →
      (J.stop i H ∧ Qd H) ∨ (J.go i H ∧ ∃ Nx : Hp → Prop, (∀ H', Nx H' → ∃ m', m' < m ∧ W (i + 1) m' H') ∧ ∀ x H', J.yld i H x H' → g x (wipe σ vs) H' fun σ2 H2 => wipe σ2 vs = wipe σ vs ∧ tt σ2 H2 fun b H3 =>
        if b = true then tk σ2 H3 fun y H4 => tv σ2 H4 fun z H5 => ∃ kvs k, y = kV k ∧ H5 D = some (.dK kvs) ∧ kvs.length < sizeLine ∧ Nx (upd H5 D (.dK (putK kvs k z))) else Nx H3) := by
  refine ⟨fun i m H => m = n - i ∧ i ≤ n ∧ Pv i H, ⟨n, by simp, Nat.zero_le _, h0⟩, ?_⟩
  rintro i m H ⟨rfl, hi, p⟩
  have q := hG i H hi p
  by_cases hlt : i < n
  · refine .inr ⟨w.goes i H hlt q, Pv (i + 1), fun H' p' => ⟨n - (i + 1), by omega, rfl, hlt, p'⟩, fun x H' y => hs i x H H' hlt p (w.yields i H x H' hlt q y)⟩
  · have e : i = n := by omega
    subst e
    exact .inl ⟨w.stops H q, hd H p⟩
theorem dcD (src : Src J GB as R) {g : TG} {tt : TT} {tk tv : TE} {vs : List Nat} {Q : VK} (S : Ok F B L H1) (I : Nat → List (Key × V) → Hp → Led → Prop) (h0 : I 0 [] B L) (hG : ∀ i acc B L D, i ≤ as.length → I i acc B L → GB B ((D, .dK acc) :: L))
    (hs : ∀ i a x acc B0 B L D H, as[i]? = some a → I i acc B0 L → Ex B0 B → Ok F B ((D, .dK acc) :: L) H → R B x a → g x (wipe σ vs) H fun σ2 H2 => wipe σ2 vs = wipe σ vs ∧ tt σ2 H2 fun b H3 =>
      if b = true then tk σ2 H3 fun y H4 => tv σ2 H4 (AccD F (I (i + 1)) D y) else SkpD F (I (i + 1)) D H3)
    (hd : ∀ acc B L D H, I as.length acc B L → Ok F B ((D, .dK acc) :: L) H → Q (.ref D) H) :
    DcW g tt tk tv vs σ Q J H1 := by
  intro D hD
  obtain ⟨G, Y, w, h1, h2⟩ := src.ex
  refine dc_it w (fun i H => ∃ acc B L, Ok F B ((D, .dK acc) :: L) H ∧ I i acc B L) ⟨[], B, L, S.newL hD, h0⟩ (fun i H hi ⟨acc, B, L, S, q⟩ => h1 F B _ H S (hG i acc B L D hi q)) (fun i x H H' hi ⟨acc, B, L, S, q⟩ y => ?_) (fun H ⟨acc, B, L, S, q⟩ => hd acc B L D H q S)
  obtain ⟨a, B', e, ex, S', r⟩ := h2 F B _ i H x H' S (hG i acc B L D (Nat.le_of_lt hi) q) y hi
  exact hs i a x acc B B' L D H' e q ex S' r
end

/-! sources -/
section
variable {α : Type} {K : PySem.W.Frag} {a d : Addr} {xs : List V} {o : Obj}
theorem src_lst {as : List α} {enc : α → PyData} : Src (Itl K a) (fun B L => (SqL K B a xs ∨ (a, HO.lst xs) ∈ L) ∧ DpAll K B xs (as.map enc)) as (fun B x y => Dp K B x (enc y)) := by
  by_cases hl : xs.length = as.length
  · refine ⟨_, _, hl ▸ walk_list (xs := xs), fun F B L H S g => ?_, fun F B L i H x H' S g y hi => ?_⟩
    · rcases g.1 with h | h
      · exact S.sqB h
      · exact S.sqMem h
    · obtain ⟨rfl, y⟩ := y
      obtain ⟨d, hd, hx⟩ := g.2.get y
      rw [List.getElem?_map] at hd
      cases e : as[i]? with
      | none => rw [e] at hd; cases hd
      | some z =>
        rw [e] at hd
        cases hd
        exact ⟨z, B, rfl, Ex.refl _, S, hx⟩
  · refine ⟨fun _ => False, fun _ _ _ _ => False, ⟨fun _ _ _ h => h.elim, fun _ h => h.elim, fun _ _ _ _ _ h => h.elim⟩, fun F B L H S g => hl ?_, fun F B L i H x H' S g y hi => y.elim⟩
    have := g.2.length
    rw [List.length_map] at this
    exact this
theorem src_tup {as : List α} {enc : α → PyData} : Src (Itt K a) (fun B _ => SqT K B a xs ∧ DpAll K B xs (as.map enc)) as (fun B x y => Dp K B x (enc y)) := by
  by_cases hl : xs.length = as.length
  · refine ⟨_, _, hl ▸ walk_tup (xs := xs), fun F B L H S g => S.tqB g.1, fun F B L i H x H' S g y hi => ?_⟩
    obtain ⟨rfl, y⟩ := y
    obtain ⟨d, hd, hx⟩ := g.2.get y
    rw [List.getElem?_map] at hd
    cases e : as[i]? with
    | none => rw [e] at hd; cases hd
    | some z =>
      rw [e] at hd
      cases hd
      exact ⟨z, B, rfl, Ex.refl _, S, hx⟩
  · refine ⟨fun _ => False, fun _ _ _ _ => False, ⟨fun _ _ _ h => h.elim, fun _ h => h.elim, fun _ _ _ _ _ h => h.elim⟩, fun F B L H S g => hl ?_, fun F B L i H x H' S g y hi => y.elim⟩
    have := g.2.length
    rw [List.length_map] at this
    exact this
theorem src_range {lo : Int} {n : Nat} : Src (Itr lo n) (fun _ _ => True) (List.range n) (fun _ x i => x = .int (lo + (i : Nat))) := by
  refine ⟨fun _ => True, YFn fun i => .int (lo + i), (by rw [List.length_range]; exact walk_range), fun F B L H S g => True.intro, fun F B L i H x H' S g y hi => ?_⟩
  obtain ⟨rfl, rfl⟩ := y
  rw [List.length_range] at hi
  exact ⟨i, B, by simp [hi], Ex.refl _, S, rfl⟩
theorem src_str {z : Str} : Src (Its z) (fun _ _ => True) z.cps.toList (fun _ x c => x = .str ⟨#[c]⟩) := by
  refine ⟨_, _, (by rw [Array.length_toList]; exact walk_str), fun F B L H S g => True.intro, fun F B L i H x H' S g y hi => ?_⟩
  obtain ⟨rfl, c, hc, rfl⟩ := y
  exact ⟨c, B, by simpa using hc, Ex.refl _, S, rfl⟩
/-- a dict that is locked -/
def Frz (d : Addr) (o : Obj) (kvs : List (Key × V)) (B : Hp) (L : Led) : Prop := B d = some (.frz o (.dK kvs)) ∨ (d, HO.frz o (.dK kvs)) ∈ L
theorem Frz.at {F : Ent} {B H : Hp} {L : Led} {kvs : List (Key × V)} (S : Ok F B L H) (h : Frz d o kvs B L) : H d = some (.frz o (.dK kvs)) := by
  rcases h with h | h
  · exact S.stay h
  · exact S.mem h
theorem src_keys {kvs : List (Key × V)} : Src (Itk d o kvs) (Frz d o kvs) (kvs.map (·.1)) (fun _ x k => x = kV k) := by
  refine ⟨_, _, (by rw [List.length_map]; exact walk_keys), fun F B L H S g => g.at S, fun F B L i H x H' S g y hi => ?_⟩
  obtain ⟨rfl, k, v, e, rfl⟩ := y
  exact ⟨k, B, by rw [List.getElem?_map, e]; rfl, Ex.refl _, S, rfl⟩
theorem src_items {kvs : List (Key × V)} : Src (Iti d o kvs) (Frz d o kvs) kvs (fun B x kv => ∃ T, x = .ref T ∧ B T = some (.tup [kV kv.1, kv.2])) := by
  refine ⟨_, _, walk_items, fun F B L H S g => g.at S, fun F B L i H x H' S g y hi => ?_⟩
  obtain ⟨T, x', y', rfl, n, rfl, e1, e2⟩ := y
  dsimp only at e1 e2
  cases e : kvs[i]? with
  | none => rw [e] at e1; cases e1
  | some kv =>
    rw [e] at e1 e2
    cases e1
    cases e2
    exact ⟨kv, upd B T (.tup [kV kv.1, kv.2]), rfl, S.exB n, S.newB n, T, rfl, upd_same⟩
theorem getElem_zipIdx {as : List α} {i : Nat} {z : α} (e : as[i]? = some z) : as.zipIdx[i]? = some (z, i) := by
  simp [List.getElem?_zipIdx, e]
/-- enumerate(a list) -/
theorem src_enum {as : List α} {enc : α → PyData} : Src (Ite K a) (fun B L => (SqL K B a xs ∨ (a, HO.lst xs) ∈ L) ∧ DpAll K B xs (as.map enc)) as.zipIdx (fun B x y => ∃ T u, x = .ref T ∧ B T = some (.tup [.int (y.2 : Nat), u]) ∧ Dp K B u (enc y.1)) := by
  by_cases hl : xs.length = as.length
  · refine ⟨_, _, (by rw [List.length_zipIdx]; exact hl ▸ walk_enum (xs := xs)), fun F B L H S g => ?_, fun F B L i H x H' S g y hi => ?_⟩
    · rcases g.1 with h | h
      · exact S.sqB h
      · exact S.sqMem h
    · obtain ⟨T, x', y', rfl, n, rfl, e1, e2⟩ := y
      cases e1
      obtain ⟨d, hd, hx⟩ := g.2.get e2
      rw [List.getElem?_map] at hd
      cases e : as[i]? with
      | none => rw [e] at hd; cases hd
      | some z =>
        rw [e] at hd
        cases hd
        exact ⟨(z, i), upd B T (.tup [.int (i : Nat), y']), getElem_zipIdx e, S.exB n, S.newB n, T, y', rfl, upd_same, hx.up (S.exB n)⟩
  · refine ⟨fun _ => False, fun _ _ _ _ => False, ⟨fun _ _ _ h => h.elim, fun _ h => h.elim, fun _ _ _ _ _ h => h.elim⟩, fun F B L H S g => hl ?_, fun F B L i H x H' S g y hi => y.elim⟩
    have := g.2.length
    rw [List.length_map] at this
    exact this
end

/-! readings of walks -/
section
variable {P : Program} {w : World} {K : PySem.W.Frag} {σ : L2.St} {H : Hp} {tg : Expr} {te tx : TE} {g : TG} {tb : TS} {tt : TT} {vs : List Nat} {D : Ends} {Q : VK} {R : It → Hp → Prop} {wi : TI} {ta : TA}
theorem r_for (k : wi σ H (ForW g tb D σ)) : tFor wi g tb D σ H := k
theorem r_lc (k : wi σ H (LcW g tt te vs σ Q)) : tLc wi g tt te vs σ H Q := k
theorem r_dc {tk tv : TE} (k : wi σ H (DcW g tt tk tv vs σ Q)) : tDc wi g tt tk tv vs σ H Q := k
theorem r_val (k : te σ H fun v H1 => ItU P w K tg v H1 R) : iVal P w K tg te σ H R := k
def RngQ (R : It → Hp → Prop) : List V → Hp → Prop := fun vs H => ∃ j : Int, vs = [.int j] ∧ -(2 ^ 62) ≤ j ∧ j < 2 ^ 62 ∧ R (Itr 0 j.toNat) H
theorem r_rng1 (k : ta σ H (RngQ R)) : iRng1 ta σ H R := k
theorem rngQ {j : Int} (h1 : -(2 ^ 62) ≤ j) (h2 : j < 2 ^ 62) (k : R (Itr 0 j.toNat) H) : RngQ R [.int j] H := ⟨j, rfl, h1, h2, k⟩
def StrQ (R : It → Hp → Prop) : V → Hp → Prop := fun v H => ∃ x, v = .str x ∧ R (Its x) H
theorem r_str (k : te σ H (StrQ R)) : iStr te σ H R := k
theorem strQ {z : Str} (k : R (Its z) H) : StrQ R (.str z) H := ⟨z, rfl, k⟩
def ItmQ (R : It → Hp → Prop) : V → Hp → Prop := fun x H1 => ∃ d o kvs, x = .ref d ∧ H1 d = some (.frz o (.dK kvs)) ∧ R (Iti d o kvs) H1
def KeyQ (R : It → Hp → Prop) : V → Hp → Prop := fun x H1 => ∃ d o, x = .ref d ∧ ((∃ kvs, H1 d = some (.frz o (.dK kvs)) ∧ R (Itk d o kvs) H1) ∨ ∃ kvs, H1 d = some (.frz o (.dT kvs)) ∧ R (Itkt d o kvs) H1)
def VlsQ (R : It → Hp → Prop) : V → Hp → Prop := fun x H1 => ∃ d o kvs, x = .ref d ∧ H1 d = some (.frz o (.dK kvs)) ∧ R (Itd d o kvs) H1
theorem r_items (k : te σ H (ItmQ R)) : iItems te σ H R := k
theorem r_keys (k : te σ H (KeyQ R)) : iKeys te σ H R := k
theorem r_values (k : te σ H (VlsQ R)) : iVals te σ H R := k
theorem itmQ {d : Addr} {o : Obj} {kvs : List (Key × V)} (h : H d = some (.frz o (.dK kvs))) (k : R (Iti d o kvs) H) : ItmQ R (.ref d) H := ⟨d, o, kvs, rfl, h, k⟩
theorem keyQ {d : Addr} {o : Obj} {kvs : List (Key × V)} (h : H d = some (.frz o (.dK kvs))) (k : R (Itk d o kvs) H) : KeyQ R (.ref d) H := ⟨d, o, rfl, .inl ⟨kvs, h, k⟩⟩
def EnuQ (K : PySem.W.Frag) (R : It → Hp → Prop) : List V → Hp → Prop := fun vs H1 => ∃ a xs, vs = [.ref a] ∧ SqL K H1 a xs ∧ R (Ite K a) H1
/-! a dict locked for a walk -/
def LckQ (d : Addr) (od : Obj) (u : HO) (Q : VK) : VK := fun v H' => H' d = some (.frz od u) ∧ Q v (upd H' d u)
def LckD (d : Addr) (od : Obj) (u : HO) (D : Ends) : Ends := ⟨fun σ' H' => H' d = some (.frz od u) ∧ D.nx σ' (upd H' d u), fun v H' => H' d = some (.frz od u) ∧ D.rt v (upd H' d u), fun σ' H' => H' d = some (.frz od u) ∧ D.bk σ' (upd H' d u), fun σ' H' => H' d = some (.frz od u) ∧ D.ct σ' (upd H' d u)⟩
theorem r_lockS {t : TS} {d : Addr} {u : HO} (h : H d = some u) (mu : Mut (some u)) (k : ∀ od, t (LckD d od u D) σ (upd H d (.frz od u))) : tLock t D σ H := ⟨d, u, h, mu, k⟩
/-! targets -/
section
variable {F : Ent} {B : Hp} {L : Led} {gs : TGs} {n : Nat} {v : V} {QG : L2.St → Hp → Prop}
theorem r_gtupD {ds : List PyData} (S : Ok F B L H) (h : Dp K B v (.tuple ds)) (hn : ds.length = n) (k : ∀ vs, DpAll K B vs ds → gs vs σ H QG) : gTup K n gs v σ H QG := by
  obtain ⟨a, xs, rfl, hq, ha⟩ := Dp.tup_inv h
  exact ⟨a, xs, rfl, S.tqB hq, by rw [ha.length, hn], k xs ha⟩
theorem r_gtupSI {s : Str} {i : Int} (S : Ok F B L H) (h : Dp K B v (.tuple [.str s, .int i])) (k : gs [.str s, .int i] σ H QG) : gTup K 2 gs v σ H QG :=
  r_gtupD S h rfl fun vs ha => by
    obtain ⟨v1, r, rfl, h1, ha⟩ := ha.cons_inv
    obtain ⟨v2, r, rfl, h2, ha⟩ := ha.cons_inv
    obtain rfl := ha.nil_inv
    obtain rfl := h1.str_inv
    obtain rfl := h2.int_inv
    exact k
theorem r_gtupII {s i : Int} (S : Ok F B L H) (h : Dp K B v (.tuple [.int s, .int i])) (k : gs [.int s, .int i] σ H QG) : gTup K 2 gs v σ H QG :=
  r_gtupD S h rfl fun vs ha => by
    obtain ⟨v1, r, rfl, h1, ha⟩ := ha.cons_inv
    obtain ⟨v2, r, rfl, h2, ha⟩ := ha.cons_inv
    obtain rfl := ha.nil_inv
    obtain rfl := h1.int_inv
    obtain rfl := h2.int_inv
    exact k
theorem r_gtupB {a : Addr} {xs : List V} (S : Ok F B L H) (h : B a = some (.tup xs)) (hn : xs.length = n) (k : gs xs σ H QG) : gTup K n gs (.ref a) σ H QG := r_gtup (S.tqStay h) hn k
end
end
/-! more calls -/
section
variable {P : Program} {w : World} {K : PySem.W.Frag} {H B : Hp} {Q : VK} {F : Ent} {L : Led} {a : Addr}
theorem v_sum {ns : List Int} (h : SqL K H a (ns.map V.int)) (k : Q (.int ns.sum) H) : CallU P w K (.builtin "sum") [.ref a] H Q := .ofK (r := rSum) (fun _ al => cr_sum al.calm) ⟨a, ns, rfl, h, k⟩
theorem v_all {bs : List Bool} (h : SqL K H a (bs.map V.bl)) (k : Q (.bl (bs.all id)) H) : CallU P w K (.builtin "all") [.ref a] H Q := .ofK (r := rAll) (fun _ al => cr_all al.calm) ⟨a, bs, rfl, h, k⟩
theorem v_tupleL {xs : List V} (S : Ok F B L H) (h : SqL K H a xs) (k : ∀ p B' H', Ex B B' → B' p = some (.tup xs) → Ok F B' L H' → Q (.ref p) H') : CallU P w K (.type "tuple") [.ref a] H Q :=
  .ofK (r := fun K vs H Q => ∃ p ys, vs = [.ref p] ∧ ((SqL K H p ys ∧ ∀ l, H l = none → Q (.ref l) (upd H l (.tup ys))) ∨ (SqT K H p ys ∧ Q (.ref p) H))) (fun _ _ => call_tuple_of)
    ⟨a, xs, rfl, .inl ⟨h, fun p hp => k p _ _ (S.exB hp) upd_same (S.newB hp)⟩⟩
theorem v_tupleT {xs : List V} (h : SqT K H a xs) (k : Q (.ref a) H) : CallU P w K (.type "tuple") [.ref a] H Q :=
  .ofK (r := fun K vs H Q => ∃ p ys, vs = [.ref p] ∧ ((SqL K H p ys ∧ ∀ l, H l = none → Q (.ref l) (upd H l (.tup ys))) ∨ (SqT K H p ys ∧ Q (.ref p) H))) (fun _ _ => call_tuple_of)
    ⟨a, xs, rfl, .inr ⟨h, k⟩⟩
end
/-! fields -/
section
variable {K : PySem.W.Frag} {σ : L2.St} {H : Hp} {te tv : TE} {f : Str} {Q : VK} {D : Ends}
def FldQ (K : PySem.W.Frag) (f : Str) (Q : VK) : VK := fun x H1 => ∃ a C dx fs v, x = .ref a ∧ H1 a = some (.ins C dx fs) ∧ Cls K C ∧ NoAttr K C f ∧ fs.lookup f = some v ∧ Q v H1
theorem r_fld (k : te σ H (FldQ K f Q)) : tFld K te f σ H Q := k
theorem fldQ {a C dx : Addr} {fs : List (Str × V)} {v : V} (h : H a = some (.ins C dx fs)) (c : Cls K C) (n : NoAttr K C f) (l : fs.lookup f = some v) (k : Q v H) : FldQ K f Q (.ref a) H := ⟨a, C, dx, fs, v, rfl, h, c, n, l, k⟩
def SFdQ (K : PySem.W.Frag) (f : Str) (y : V) (D : Ends) (σ : L2.St) : VK := fun x H2 => ∃ a C dx fs, x = .ref a ∧ H2 a = some (.ins C dx fs) ∧ Cls K C ∧ NoAttr K C f ∧ fs.length < 1000 ∧ D.nx σ (upd H2 a (.ins C dx (putF f y fs)))
theorem r_sfld (k : tv σ H fun y H1 => te σ H1 (SFdQ K f y D σ)) : sFld K te tv f D σ H := k
theorem sfdQ {F : Ent} {B : Hp} {L : Led} {a C dx : Addr} {fs fs' : List (Str × V)} {y : V} (n : Nat) (S : Ok F B L H) (h : L[n]? = some (a, .ins C dx fs)) (c : Cls K C) (na : NoAttr K C f) (hl : fs.length < 1000) (hf : putF f y fs = fs') (k : ∀ H', Ok F B (L.set n (a, .ins C dx fs')) H' → D.nx σ H') : SFdQ K f y D σ (.ref a) H := by
  subst hf
  exact ⟨a, C, dx, fs, rfl, (S.own _ (List.mem_of_getElem? h)).1, c, na, hl, k _ (S.mutN n h)⟩
def AFdQ (K : PySem.W.Frag) (f : Str) (rd : V → V → Hp → VK → Prop) (tv : TE) (D : Ends) (σ : L2.St) : VK := fun x H1 => ∃ a C dx fs v, x = .ref a ∧ H1 a = some (.ins C dx fs) ∧ Cls K C ∧ NoAttr K C f ∧ fs.lookup f = some v ∧
  tv σ H1 fun y H2 => rd v y H2 fun z H3 => ∃ dx' fs', H3 a = some (.ins C dx' fs') ∧ fs'.length < 1000 ∧ D.nx σ (upd H3 a (.ins C dx' (putF f z fs')))
theorem r_afld {rd : V → V → Hp → VK → Prop} (k : te σ H (AFdQ K f rd tv D σ)) : sFldAug K te tv rd f D σ H := k
end
end WK
namespace WK
open PySem PySem.Spec PyProof.Rows L2
theorem r_yes {σ : L2.St} {H : Hp} {Q : Bool → Hp → Prop} (k : Q true H) : tYes σ H Q := k
end WK
namespace WK
open PySem PySem.Spec PyProof.Rows L2
section
variable {α : Type} {J : It} {GB : Hp → Led → Prop} {as : List α} {R : Hp → V → α → Prop} {F : Ent} {B H1 : Hp} {L : Led} {σ : L2.St} {K : PySem.W.Frag}
/-- a comprehension that makes data of data -/
theorem lcPure (K : PySem.W.Frag) (src : Src J GB as R) {g : TG} {tt : TT} {te : TE} {vs : List Nat} {Q : VK} (S : Ok F B L H1) (hGB : ∀ B1 D acc, Ex B B1 → GB B1 ((D, .lst acc) :: L)) (keep : α → Bool) (f : α → PyData) (hz : as.length ≤ 100000)
    (hs : ∀ a x B1 D acc H1 (C : VK) (Cs : Hp → Prop), a ∈ as → Ex B B1 → Ok F B1 ((D, .lst acc) :: L) H1 → R B1 x a →
      (∀ y H4 B2, keep a = true → Ex B1 B2 → Ok F B2 ((D, .lst acc) :: L) H4 → Dp K B2 y (f a) → C y H4) → (∀ H3 B2, keep a = false → Ex B1 B2 → Ok F B2 ((D, .lst acc) :: L) H3 → Cs H3) →
      g x (wipe σ vs) H1 fun σ2 H2 => wipe σ2 vs = wipe σ vs ∧ tt σ2 H2 fun b H3 => if b = true then te σ2 H3 C else Cs H3)
    (hd : ∀ D acc B1 H1, Ex B B1 → Ok F B1 ((D, .lst acc) :: L) H1 → DpAll K B1 acc ((as.filter keep).map f) → Q (.ref D) H1) : LcW g tt te vs σ Q J H1 := by
  refine lcD src S (fun i acc B1 L1 => L1 = L ∧ Ex B B1 ∧ DpAll K B1 acc (((as.take i).filter keep).map f)) ⟨rfl, Ex.refl _, .nil⟩ ?_ ?_ ?_
  · rintro i acc B1 L1 D _ ⟨rfl, e, _⟩
    exact hGB B1 D acc e
  · rintro i a x acc B0 B1 L1 D H1 ha ⟨rfl, e, hd⟩ e1 S1 r
    have hm : a ∈ as := List.mem_of_getElem? ha
    have hlen : acc.length ≤ i := by
      have h1 := hd.length
      have h2 := List.length_filter_le keep (as.take i)
      rw [List.length_map] at h1
      rw [List.length_take] at h2
      omega
    have hi : i < as.length := (List.getElem?_eq_some_iff.mp ha).1
    have et : as.take (i + 1) = as.take i ++ [a] := by rw [List.take_add_one, ha]; rfl
    refine hs a x B1 D acc H1 _ _ hm (e.trans e1) S1 r (fun y H4 B2 hk e2 S2 hy => ?_) (fun H3 B2 hk e2 S2 => ?_)
    · refine Acc.mk S2 (by rw [sizeLine_eq]; omega) ⟨rfl, (e.trans e1).trans e2, ?_⟩
      rw [et, List.filter_append, List.map_append]
      have : [a].filter keep = [a] := by simp [hk]
      rw [this]
      exact (hd.up (e1.trans e2)).append (.cons hy .nil)
    · refine Skp.mk S2 ⟨rfl, (e.trans e1).trans e2, ?_⟩
      rw [et, List.filter_append]
      have : [a].filter keep = [] := by simp [hk]
      rw [this, List.append_nil]
      exact hd.up (e1.trans e2)
  · rintro acc B1 L1 D H1 ⟨rfl, e, hd'⟩ S1
    rw [List.take_length] at hd'
    exact hd D acc B1 H1 e S1 hd'
theorem lcPureT {P : Program} {w : World} {tg : Expr} {enc : α → PyData} {v : V} {g : TG} {tt : TT} {te : TE} {vs : List Nat} {Q : VK} (S : Ok F B L H1) (h : Dp K B v (.tuple (as.map enc))) (keep : α → Bool) (f : α → PyData) (hz : as.length ≤ 100000)
    (hs : ∀ a x B1 D acc H1 (C : VK) (Cs : Hp → Prop), a ∈ as → Ex B B1 → Ok F B1 ((D, .lst acc) :: L) H1 → Dp K B1 x (enc a) →
      (∀ y H4 B2, keep a = true → Ex B1 B2 → Ok F B2 ((D, .lst acc) :: L) H4 → Dp K B2 y (f a) → C y H4) → (∀ H3 B2, keep a = false → Ex B1 B2 → Ok F B2 ((D, .lst acc) :: L) H3 → Cs H3) →
      g x (wipe σ vs) H1 fun σ2 H2 => wipe σ2 vs = wipe σ vs ∧ tt σ2 H2 fun b H3 => if b = true then te σ2 H3 C else Cs H3)
    (hd : ∀ D acc B1 H1, Ex B B1 → Ok F B1 ((D, .lst acc) :: L) H1 → DpAll K B1 acc ((as.filter keep).map f) → Q (.ref D) H1) : ItU P w K tg v H1 (LcW g tt te vs σ Q) := by
  obtain ⟨a, xs, rfl, hq, ha⟩ := Dp.tup_inv h
  exact ItU.tup (S.tqB hq) (lcPure K src_tup S (fun B1 D acc e => ⟨e.sqT hq, ha.up e⟩) keep f hz hs hd)
theorem lcPureL {P : Program} {w : World} {tg : Expr} {enc : α → PyData} {v : V} {g : TG} {tt : TT} {te : TE} {vs : List Nat} {Q : VK} (S : Ok F B L H1) (h : Dp K B v (.list (as.map enc))) (keep : α → Bool) (f : α → PyData) (hz : as.length ≤ 100000)
    (hs : ∀ a x B1 D acc H1 (C : VK) (Cs : Hp → Prop), a ∈ as → Ex B B1 → Ok F B1 ((D, .lst acc) :: L) H1 → Dp K B1 x (enc a) →
      (∀ y H4 B2, keep a = true → Ex B1 B2 → Ok F B2 ((D, .lst acc) :: L) H4 → Dp K B2 y (f a) → C y H4) → (∀ H3 B2, keep a = false → Ex B1 B2 → Ok F B2 ((D, .lst acc) :: L) H3 → Cs H3) →
      g x (wipe σ vs) H1 fun σ2 H2 => wipe σ2 vs = wipe σ vs ∧ tt σ2 H2 fun b H3 => if b = true then te σ2 H3 C else Cs H3)
    (hd : ∀ D acc B1 H1, Ex B B1 → Ok F B1 ((D, .lst acc) :: L) H1 → DpAll K B1 acc ((as.filter keep).map f) → Q (.ref D) H1) : ItU P w K tg v H1 (LcW g tt te vs σ Q) := by
  obtain ⟨a, xs, rfl, hq, ha⟩ := Dp.lst_inv h
  exact ItU.list (S.sqB hq) (lcPure K src_lst S (fun B1 D acc e => ⟨.inl (e.sqL hq), ha.up e⟩) keep f hz hs hd)
end
theorem filter_tt {α : Type} (as : List α) : as.filter (fun _ => true) = as := by simp
end WK
namespace WK
open PySem PySem.Spec PyProof.Rows L2
section
variable {P : Program} {w : World} {F : Ent} {B H : Hp} {L : Led} {K : PySem.W.Frag} {D : Addr} {acc : List V} {ds : List PyData} {Q : VK} {v : V}
/-- a list of one's own is data from now on -/
theorem Ok.toData (S : Ok F B ((D, .lst acc) :: L) H) (h : DpAll K B acc ds) : ∃ B', Ex B B' ∧ Ok F B' L H ∧ Dp K B' (.ref D) (.list ds) :=
  ⟨_, S.exF, S.freeze, .lst (SqL.of upd_same) (h.up S.exF)⟩
theorem Dp.ofTup {a : Addr} (h : B a = some (.tup acc)) (hd : DpAll K B acc ds) : Dp K B (.ref a) (.tuple ds) := .tup (SqT.of h) hd
theorem v_lenDL (S : Ok F B L H) (h : Dp K B v (.list ds)) (k : Q (.int ds.length) H) : CallU P w K (.builtin "len") [v] H Q := by
  obtain ⟨a, xs, rfl, hq, ha⟩ := Dp.lst_inv h
  refine v_lenL (S.sqB hq) ?_
  rw [ha.length]
  exact k
theorem v_lenDT (S : Ok F B L H) (h : Dp K B v (.tuple ds)) (k : Q (.int ds.length) H) : CallU P w K (.builtin "len") [v] H Q := by
  obtain ⟨a, xs, rfl, hq, ha⟩ := Dp.tup_inv h
  refine v_lenT (S.tqB hq) ?_
  rw [ha.length]
  exact k
theorem v_allD {bs : List Bool} (S : Ok F B L H) (h : Dp K B v (.list (bs.map PyData.bool))) (k : Q (.bl (bs.all id)) H) : CallU P w K (.builtin "all") [v] H Q := by
  obtain ⟨a, xs, rfl, hq, ha⟩ := Dp.lst_inv h
  rw [ha.bools] at hq
  exact v_all (S.sqB hq) k
theorem v_sumD {ns : List Int} (S : Ok F B L H) (h : Dp K B v (.list (ns.map PyData.int))) (k : Q (.int ns.sum) H) : CallU P w K (.builtin "sum") [v] H Q := by
  obtain ⟨a, xs, rfl, hq, ha⟩ := Dp.lst_inv h
  rw [ha.ints] at hq
  exact v_sum (S.sqB hq) k
theorem v_tupDT (S : Ok F B L H) (h : Dp K B v (.tuple ds)) (k : Q v H) : CallU P w K (.type "tuple") [v] H Q := by
  obtain ⟨a, xs, rfl, hq, ha⟩ := Dp.tup_inv h
  exact v_tupleT (S.tqB hq) k
/-- a display of data -/
theorem new_tupD {vs : List V} (S : Ok F B L H) (h : DpAll K B vs ds) (hz : vs.length ≤ 1000) (k : ∀ p B' H', Ex B B' → Ok F B' L H' → Dp K B' (.ref p) (.tuple ds) → Q (.ref p) H') : NewT vs H Q :=
  new_tup S (by rw [sizeLine_eq]; omega) fun p B' H' e hp S' => k p B' H' e S' (Dp.ofTup hp (h.up e))
end
end WK
namespace WK
open PySem PySem.Spec PyProof.Rows L2
section
variable {F : Ent} {B H B' H' : Hp} {L L' : Led} {a : Addr} {u : HO} {od : Obj}
/-- a thing of the caller's that is locked for a while: one's own meanwhile -/
theorem Ok.lock (S : Ok F B L H) (h : H a = some u) (hb : B a = none) (hl : a ∉ L.map (·.1)) : Ok ⟨B, upd H a (.frz od u), a :: L.map (·.1)⟩ B ((a, .frz od u) :: L) (upd H a (.frz od u)) := by
  refine Ok.start (L := (a, .frz od u) :: L) (fun b o e => ?_) (List.nodup_cons.mpr ⟨hl, S.nd⟩) fun q hq => ?_
  · rw [upd_ne (ne_of_none e hb)]; exact S.ex b o e
  · rcases List.mem_cons.mp hq with rfl | hq
    · exact ⟨upd_same, hb⟩
    · obtain ⟨e1, e2⟩ := S.own q hq
      exact ⟨by rw [upd_ne fun z => hl (by rw [← z]; exact List.mem_map.mpr ⟨q, hq, rfl⟩)]; exact e1, e2⟩
theorem Ok.unlock (S : Ok F B L H) (h : H a = some u) (hb : B a = none) (hl : a ∉ L.map (·.1)) (T : Ok ⟨B, upd H a (.frz od u), a :: L.map (·.1)⟩ B' ((a, .frz od u) :: L') H') : H' a = some (.frz od u) ∧ Ok F B' L' (upd H' a u) := by
  obtain ⟨e0, nb⟩ := T.own _ (List.mem_cons_self ..)
  have ndT := List.nodup_cons.mp T.nd
  have nl : ∀ q ∈ L', q.1 ≠ a := fun q hq z => ndT.1 (List.mem_map.mpr ⟨q, hq, z⟩)
  have old : ∀ b o, H b = some o → b ∉ L.map (·.1) → upd H' a u b = some o := fun b o e hn => by
    by_cases z : b = a
    · subst z
      rw [upd_same, ← e, h]
    · rw [upd_ne z]
      refine T.keep b o (by show upd H a _ b = _; rw [upd_ne z]; exact e) fun y => ?_
      rcases List.mem_cons.mp y with y | y
      · exact z y
      · exact hn y
  have oldF : ∀ b, (upd H a (.frz od u)) b = none → H b = none := fun b e => by
    by_cases z : b = a
    · rw [z, upd_same] at e; cases e
    · rw [upd_ne z] at e; exact e
  have oldL : ∀ b, b ∈ L.map (·.1) → b ∈ F.A ∨ F.H b = none := fun b hb' => by
    obtain ⟨q, hq, rfl⟩ := List.mem_map.mp hb'
    exact S.fL q hq
  have noneF : ∀ b, H b = none → F.H b = none := fun b e => (S.fresh e).1
  refine ⟨e0, fun b o e => ?_, ndT.2, fun q hq => ?_, S.ex0.trans T.ex0, fun b o e hn => ?_, fun b hb' => ?_, fun b o e => ?_, fun q hq => ?_⟩
  · rw [upd_ne (ne_of_none e nb)]; exact T.ex b o e
  · obtain ⟨e1, e2⟩ := T.own q (List.mem_cons_of_mem _ hq)
    exact ⟨by rw [upd_ne (nl q hq)]; exact e1, e2⟩
  · refine old b o (S.keep b o e hn) fun z => ?_
    rcases oldL b z with y | y
    · exact hn y
    · rw [y] at e; cases e
  · obtain ⟨o, e⟩ := S.kA b hb'
    by_cases z : b ∈ L.map (·.1)
    · obtain ⟨o', e'⟩ := T.kA b (List.mem_cons_of_mem _ z)
      by_cases y : b = a
      · exact ⟨u, by rw [y]; exact upd_same⟩
      · exact ⟨o', by rw [upd_ne y]; exact e'⟩
    · exact ⟨o, old b o e z⟩
  · rcases T.fB b o e with ⟨w, z⟩ | z | z
    · exact S.fB b w z
    · exact .inr (.inl (noneF b (oldF b z)))
    · rcases List.mem_cons.mp z with z | z
      · rw [z] at e; exact absurd (e.symm.trans nb) (by simp)
      · rcases oldL b z with y | y
        · exact .inr (.inr y)
        · exact .inr (.inl y)
  · rcases T.fL q (List.mem_cons_of_mem _ hq) with z | z
    · rcases List.mem_cons.mp z with z | z
      · exact absurd z (nl q hq)
      · exact oldL _ z
    · exact .inr (noneF _ (oldF _ z))
/-- a dict of one's own is let go: it stays, locked, from now on -/
theorem Ok.freezeD (S : Ok F B ((a, u) :: L) H) : ∃ B', Ex B B' ∧ B' a = some (.frz od u) ∧ Ok F B' L (upd H a (.frz od u)) := by
  have S1 : Ok F B ((a, .frz od u) :: L) (upd H a (.frz od u)) := S.mut
  exact ⟨_, S1.exF, upd_same, S1.freeze⟩
end
section
variable {X : Cx}
/-- a thing locked for good: for the expression, or the statements, that follow -/
def tFrzE (t : TE) : TE := fun σ H Q => t σ H Q ∨ ∃ d u, H d = some u ∧ Mut (some u) ∧ ∀ od, t σ (upd H d (.frz od u)) Q
theorem pe_frz {e : Expr} {t : TE} (h : PE X e t) : PE X e (tFrzE t) := by
  refine ⟨fun pins s σ H Q I hw => ?_⟩
  rcases hw with hw | ⟨d, u, hd, mu, hw⟩
  · exact h.run pins s σ H Q I hw
  · obtain ⟨od, I1⟩ := I.lock hd mu
    exact h.run pins s σ _ Q I1 (hw od)
theorem frzE {t : TE} {σ : L2.St} {H : Hp} {Q : VK} {d : Addr} {u : HO} (h : H d = some u) (mu : Mut (some u)) (k : ∀ od, t σ (upd H d (.frz od u)) Q) : tFrzE t σ H Q := .inr ⟨d, u, h, mu, k⟩
def tFrzS (t : TS) : TS := fun D σ H => t D σ H ∨ ∃ d u, H d = some u ∧ Mut (some u) ∧ ∀ od, t D σ (upd H d (.frz od u))
theorem ps_frz {st : Stmt} {t : TS} (h : PS X st t) : PS X st (tFrzS t) := by
  refine ⟨fun pins s σ H D I hw => ?_⟩
  rcases hw with hw | ⟨d, u, hd, mu, hw⟩
  · exact h.run pins s σ H D I hw
  · obtain ⟨od, I1⟩ := I.lock hd mu
    exact h.run pins s σ _ D I1 (hw od)
theorem frzS {t : TS} {σ : L2.St} {H : Hp} {D : Ends} {d : Addr} {u : HO} (h : H d = some u) (mu : Mut (some u)) (k : ∀ od, t D σ (upd H d (.frz od u))) : tFrzS t D σ H := .inr ⟨d, u, h, mu, k⟩
end
end WK

namespace WK
open PySem PySem.Spec PyProof.Rows L2
theorem valV_none {κ : Type} [DecidableEq κ] {kvs : List (κ × V)} {k : κ} (h : k ∉ kvs.map (·.1)) : valV kvs k = none := by
  cases e : valV kvs k with
  | none => rfl
  | some w => exact absurd (valV_in e) h
section
variable {α : Type} {J : It} {GB : Hp → Led → Prop} {as : List α} {R : Hp → V → α → Prop} {F : Ent} {B H H1 : Hp} {L : Led} {σ : L2.St} {K : PySem.W.Frag}
/-- a dict whose keys are all new and whose values are fixed -/
theorem dcPure (src : Src J GB as R) {g : TG} {tt : TT} {tk tv : TE} {vs : List Nat} {Q : VK} (S : Ok F B L H1) (hGB : ∀ B1 D acc, Ex B B1 → GB B1 ((D, .dK acc) :: L)) (keep : α → Bool) (f : α → Key × V) (nd : (as.map fun a => (f a).1).Nodup) (hz : as.length ≤ 100000)
    (hs : ∀ a x B1 D acc H1 (C : V → VK) (Cs : Hp → Prop), a ∈ as → Ex B B1 → Ok F B1 ((D, .dK acc) :: L) H1 → R B1 x a →
      (∀ z H4 B2, keep a = true → z = (f a).2 → Ex B1 B2 → Ok F B2 ((D, .dK acc) :: L) H4 → C (kV (f a).1) z H4) → (∀ H3 B2, keep a = false → Ex B1 B2 → Ok F B2 ((D, .dK acc) :: L) H3 → Cs H3) →
      g x (wipe σ vs) H1 fun σ2 H2 => wipe σ2 vs = wipe σ vs ∧ tt σ2 H2 fun b H3 => if b = true then tk σ2 H3 fun y H4 => tv σ2 H4 (C y) else Cs H3)
    (hd : ∀ D B1 H1, Ex B B1 → Ok F B1 ((D, .dK ((as.filter keep).map f)) :: L) H1 → Q (.ref D) H1) : DcW g tt tk tv vs σ Q J H1 := by
  refine dcD src S (fun i acc B1 L1 => L1 = L ∧ Ex B B1 ∧ acc = ((as.take i).filter keep).map f) ⟨rfl, Ex.refl _, rfl⟩ ?_ ?_ ?_
  · rintro i acc B1 L1 D _ ⟨rfl, e, _⟩
    exact hGB B1 D acc e
  · rintro i a x acc B0 B1 L1 D H1 ha ⟨rfl, e, rfl⟩ e1 S1 r
    have hm : a ∈ as := List.mem_of_getElem? ha
    have hi : i < as.length := (List.getElem?_eq_some_iff.mp ha).1
    have et : as.take (i + 1) = as.take i ++ [a] := by rw [List.take_add_one, ha]; rfl
    have hlen : (((as.take i).filter keep).map f).length ≤ i := by
      have h2 := List.length_filter_le keep (as.take i)
      rw [List.length_map]
      rw [List.length_take] at h2
      omega
    refine hs a x B1 D _ H1 _ _ hm (e.trans e1) S1 r (fun z H4 B2 hk hz' e2 S2 => ?_) (fun H3 B2 hk e2 S2 => ?_)
    · refine AccD.mk (k := (f a).1) S2 rfl (by rw [sizeLine_eq]; omega) ⟨rfl, (e.trans e1).trans e2, ?_⟩
      subst hz'
      rw [et, List.filter_append, List.map_append]
      have : [a].filter keep = [a] := by simp [hk]
      rw [this]
      refine putK_new _ ?_
      cases ev : valV (((as.take i).filter keep).map f) (f a).1 with
      | none => rfl
      | some w =>
        exfalso
        have h1 := valV_in ev
        rw [List.map_map] at h1
        obtain ⟨b, hb, eb⟩ := List.mem_map.mp h1
        have hb' := (List.mem_filter.mp hb).1
        obtain ⟨j, hj⟩ := List.getElem?_of_mem hb'
        have hji : j < i := by
          have := (List.getElem?_eq_some_iff.mp hj).1
          rw [List.length_take] at this
          omega
        rw [List.getElem?_take_of_lt hji] at hj
        have q1 : (as.map fun a => (f a).1)[j]? = some (f b).1 := by rw [List.getElem?_map, hj]; rfl
        have q2 : (as.map fun a => (f a).1)[i]? = some (f a).1 := by rw [List.getElem?_map, ha]; rfl
        have q3 := (List.getElem?_inj (i := j) (j := i) (by rw [List.length_map]; omega) nd).mp (by rw [q1, q2]; exact congrArg some eb)
        omega
    · refine SkpD.mk S2 ⟨rfl, (e.trans e1).trans e2, ?_⟩
      rw [et, List.filter_append]
      have : [a].filter keep = [] := by simp [hk]
      rw [this, List.append_nil]
  · rintro acc B1 L1 D H1 ⟨rfl, e, rfl⟩ S1
    rw [List.take_length] at S1
    exact hd D B1 H1 e S1
end
end WK
namespace WK
open PySem PySem.Spec PyProof.Rows L2
section
variable {X : Cx}
/-- name = {..} on one line, the name a local -/
theorem ps_setDc {i : Nat} {y : Str} {py : Pos} {kx vx tg iter : Expr} {ifs : List Expr} {scope : Scope} {own : List (Str × Nat)} {pos spos : Pos} {wi : TI} {g : TG} {tt : TT} {tk tv : TE} (hc : X.calm = true) (hN : X.N.Nodup) (hy : X.N[i]? = some y) (hyl : X.env.scope.names.lookup y = some .local)
    (hsw : swapsWith (.DictComp kx vx [⟨tg, iter, ifs, 0⟩] scope pos) (some (.Name y py)) spos.line X.env = pure true) (hi : PI X tg iter wi) (ok : BlkOk X.N X.env.scope scope own)
    (hg : ∀ (s : Shared) (H : Hp) (C : Addr) (cl : List (Str × Addr)) (fp : List Addr), PG (X.blk s H scope (compEnvC scope cl C X.env) fp) tg g) (ht : ∀ (s : Shared) (H : Hp) (C : Addr) (cl : List (Str × Addr)) (fp : List Addr), PTs (X.blk s H scope (compEnvC scope cl C X.env) fp) ifs tt)
    (hk : ∀ (s : Shared) (H : Hp) (C : Addr) (cl : List (Str × Addr)) (fp : List Addr), PE (X.blk s H scope (compEnvC scope cl C X.env) fp) kx tk)
    (he : ∀ (s : Shared) (H : Hp) (C : Addr) (cl : List (Str × Addr)) (fp : List Addr), PE (X.blk s H scope (compEnvC scope cl C X.env) fp) vx tv) (hs : ∀ x, foldedSetIterable iter X.env x = pure x := by intro _; rfl) :
    PS X (.Assign [.Name y py] (.DictComp kx vx [⟨tg, iter, ifs, 0⟩] scope pos) spos) (tAsg (tDc wi g tt tk tv (own.map (·.2))) (gName i)) := by
  refine ⟨fun pins s σ H D I h => ?_⟩
  rw [exec_Assign_Name_used _ _ _ _ hsw]
  refine wpAny_bind (wpAny_standAt (wpAny_bind ?_))
  show wpAny _ X.A (do let _ ← comprehension (.DictComp kx vx [⟨tg, iter, ifs, 0⟩] scope pos) scope X.env (firstIterPos [⟨tg, iter, ifs, 0⟩] pos) newDict false (eval iter X.env) (some (assign (.Name y py) X.env))) _ _ s
  have h : tDc wi g tt tk tv (own.map (·.2)) σ H (fun x H1 => gName i x σ H1 D.nx) := h
  refine wpAny_bind (thn (dc_core (Qf := fun _ s' => SP X pins D .next s') hc hN I hi ok hg ht hk he hs h fun L C s' m H' I' q hn f => ?_) fun _ s' hq => wpAny_pure (wpAny_pure hq))
  show wpAny _ _ (assign (.Name y py) X.env (.ref L)) _ _ _
  refine wpAny_assign_Name (store_ok2 (v := V.ref L) I' hN hy (.inl hyl) rfl (fun s2 I2 ⟨a, sb, ha⟩ => ?_) (.inr hyl))
  obtain ⟨f0, f1, f2, f3, f4, f5⟩ := f
  have haC : C ≠ a := by
    rcases ha with z | z
    · rw [z]; exact f1
    · exact fun e => f4 y a z e.symm
  refine ⟨m, hn.sameBut sb haC, fun h3 sb3 => ?_⟩
  exact ⟨_, H', I2.turned (t' := s2.toks) (fun b o hb e => (sb3.2 b hb).trans e) f0 f1 f3 f4 f5, q⟩
theorem sw_trueD {kx vx : Expr} {gs : List Comprehension} {scope : Scope} {pos py : Pos} {y : Str} {l : Nat} {env : Env} (hk : env.scope.kind = .function) (hy : env.scope.names.lookup y = some .local) (hl : (py.line == pos.line) = true)
    (ha : (scope.names.any fun (n, k) => n == y && (k == .local || k == .cell)) = false) : swapsWith (.DictComp kx vx gs scope pos) (some (.Name y py)) l env = pure true := by
  have ky : env.kindOf y = some .local := hy
  have hb : env.blockKind = .function := by unfold Env.blockKind; rw [hk]; rfl
  unfold swapsWith
  simp only [hb, ky, ha, Expr.pos, hl]
  rfl
end
end WK
namespace WK
open PySem PySem.Spec PyProof.Rows L2
section
variable {α : Type} {F : Ent} {B H : Hp} {L : Led} {σ : L2.St} {K : PySem.W.Frag} {P : Program} {w : World} {tg : Expr}
/-- what a turn of a loop is to reach, what stays only growing -/
structure NxE (F : Ent) (B : Hp) (I : L2.St → Hp → Led → Prop) (σ : L2.St) (H : Hp) : Prop where
  it : ∃ B1 L1, Ok F B1 L1 H ∧ Ex B B1 ∧ I σ B1 L1
theorem NxE.mk' {I : L2.St → Hp → Led → Prop} {B1 : Hp} (S : Ok F B1 L H) (e : Ex B B1) (h : I σ B1 L) : NxE F B I σ H := ⟨B1, L, S, e, h⟩
/-- any source that what stays carries -/
theorem forDS {J : It} {GB : Hp → Led → Prop} {as : List α} {R : Hp → V → α → Prop} (src : Src J GB as R) {g : TG} {tb : TS} {D : Ends} (S : Ok F B L H) (I : Nat → L2.St → Hp → Led → Prop) (hGB : ∀ i σ B1 L1, Ex B B1 → I i σ B1 L1 → GB B1 L1) (h0 : I 0 σ B L)
    (hs : ∀ i a x σ B0 B1 L H, as[i]? = some a → I i σ B0 L → Ex B B0 → Ex B0 B1 → Ok F B1 L H → R B1 x a → g x σ H fun σ2 H2 => tb { D with nx := NxE F B (I (i + 1)), ct := NxE F B (I (i + 1)), bk := D.nx } σ2 H2)
    (hd : ∀ σ B1 L H, I as.length σ B1 L → Ex B B1 → Ok F B1 L H → D.nx σ H) : ForW g tb D σ J H := by
  obtain ⟨G, Y, w, h1, h2⟩ := src.ex
  refine for_it w (fun i => NxE F B (I i)) (.mk' S (Ex.refl _) h0) (fun i σ H hi ⟨B1, L, S, e, q⟩ => h1 F B1 L H S (hGB i σ B1 L e q)) (fun i x σ H H' hi ⟨B1, L, S, e, q⟩ y => ?_) (fun σ H ⟨B1, L, S, e, q⟩ => hd σ B1 L H q e S)
  obtain ⟨a, B', ea, ex, S', r⟩ := h2 F B1 L i H x H' S (hGB i σ B1 L e q) y hi
  exact hs i a x σ B1 B' L H' ea q e ex S' r
/-- over a tuple of data -/
theorem forDT {as : List α} {enc : α → PyData} {v : V} {g : TG} {tb : TS} {D : Ends} (S : Ok F B L H) (h : Dp K B v (.tuple (as.map enc))) (I : Nat → L2.St → Hp → Led → Prop) (h0 : I 0 σ B L)
    (hs : ∀ i a x σ B0 B1 L H, as[i]? = some a → I i σ B0 L → Ex B B0 → Ex B0 B1 → Ok F B1 L H → Dp K B1 x (enc a) → g x σ H fun σ2 H2 => tb { D with nx := NxE F B (I (i + 1)), ct := NxE F B (I (i + 1)), bk := D.nx } σ2 H2)
    (hd : ∀ σ B1 L H, I as.length σ B1 L → Ex B B1 → Ok F B1 L H → D.nx σ H) : ItU P w K tg v H (ForW g tb D σ) := by
  obtain ⟨a, xs, rfl, hq, ha⟩ := Dp.tup_inv h
  exact ItU.tup (S.tqB hq) (forDS (src_tup (xs := xs) (as := as) (enc := enc)) S I (fun _ _ _ _ e _ => ⟨e.sqT hq, ha.up e⟩) h0 hs hd)
theorem forDL {as : List α} {enc : α → PyData} {v : V} {g : TG} {tb : TS} {D : Ends} (S : Ok F B L H) (h : Dp K B v (.list (as.map enc))) (I : Nat → L2.St → Hp → Led → Prop) (h0 : I 0 σ B L)
    (hs : ∀ i a x σ B0 B1 L H, as[i]? = some a → I i σ B0 L → Ex B B0 → Ex B0 B1 → Ok F B1 L H → Dp K B1 x (enc a) → g x σ H fun σ2 H2 => tb { D with nx := NxE F B (I (i + 1)), ct := NxE F B (I (i + 1)), bk := D.nx } σ2 H2)
    (hd : ∀ σ B1 L H, I as.length σ B1 L → Ex B B1 → Ok F B1 L H → D.nx σ H) : ItU P w K tg v H (ForW g tb D σ) := by
  obtain ⟨a, xs, rfl, hq, ha⟩ := Dp.lst_inv h
  exact ItU.list (S.sqB hq) (forDS (src_lst (xs := xs) (as := as) (enc := enc)) S I (fun _ _ _ _ e _ => ⟨.inl (e.sqL hq), ha.up e⟩) h0 hs hd)
end
end WK
namespace WK
open PySem PySem.Spec PyProof.Rows L2
end WK
namespace WK
open PySem PySem.Spec PyProof.Rows L2
end WK

namespace WK
open PySem PySem.Spec PyProof.Rows L2 PyProof.V PySem.Calls
section
variable {X : Cx} {o : Expr} {p pos apos mpos : Pos} {td : TE}
/-- sum(o.values()), a dict with int values -/
def SumQ (Q : VK) : VK := fun x H1 => ∃ (a : Addr) (kvs : List (Key × V)) (is : List Int), x = V.ref a ∧ Rd H1 a (.dK kvs) ∧ kvs.map (·.2) = is.map V.int ∧ Q (.int is.sum) H1
def tSumVals (td : TE) : TE := fun σ H Q => td σ H (SumQ Q)
theorem r_sumVals {σ : L2.St} {H : Hp} {Q : VK} (k : td σ H (SumQ Q)) : tSumVals td σ H Q := k
theorem sumQ {H : Hp} {Q : VK} {a : Addr} {kvs : List (Key × V)} {is : List Int} (h : Rd H a (.dK kvs)) (e : kvs.map (·.2) = is.map V.int) (k : Q (.int is.sum) H) : SumQ Q (.ref a) H := ⟨a, kvs, is, rfl, h, e, k⟩
theorem pe_sumVals (hc : X.calm = true) (hg : Gl X "sum") (hm : X.mg "sum" = none) (hd : PE X o td) (hbase : attributeBase o "values" X.env (eval o X.env) = eval o X.env := by rfl) (hline : (apos.endLine == mpos.line) = true := by rfl)
    (hse : starEach [Expr.Call (.Attribute o "values" apos) [] [] mpos] X.env = [(false, eval (Expr.Call (.Attribute o "values" apos) [] [] mpos) X.env)] := by rfl) :
    PE X (.Call (.Name "sum" p) [.Call (.Attribute o "values" apos) [] [] mpos] [] pos) (tSumVals td) := by
  refine ⟨fun pins s σ H Q I h => ?_⟩
  refine wpAny_Call_Name_kw (ld_blt I hg hm (u := .builtin "sum") (by first | rfl | decide +kernel) ?_ (by first | decide +kernel | decide) (by first | decide +kernel | decide))
  rw [hse]
  refine PySem.callWith_builtin1 (wpAny_Call_method0_late hbase hline (thn (hd.run pins s σ H _ I h) fun v s1 ⟨x, H1, I1, r1, a, kvs, is, ex, ha, hv, q⟩ => ?_))
  subst ex
  obtain rfl : v = Value.ref a := r1
  obtain ⟨_, hsys, vs, rel, dof⟩ := dk_rd I1.hok ha
  obtain ⟨ep, dat⟩ := dof.dictAt
  have dat' := dat
  obtain ⟨ob, es, ho, ex, hdat, hko, hpr, hnd⟩ := dat'
  refine ⟨"dict", "dict.values", F.plainAttrs_dict, F.slot_dict_values, F.type_dict_values, ⟨ob, ho, ex.1⟩, fun b e => ?_, Calls.callWith_builtin rfl (PySem.evalArgs_none ?_)⟩
  · cases e
    exact ⟨ob, ho, ex.2.1⟩
  refine call_meetsIn F.slot_dict_values ⟨ob, ho, ex.1⟩ F.entry_dict_values (F.args_dict_values_1 _) (meets_dict_values (mixKind X.prog X.w) a hsys) ⟨⟨vs, dof⟩, ?_⟩
  have k1 : ∀ b u, s1.heap.get? b = some u → (s1.heap.push { cls := .type "dict_values", data := .fields #[.ref a] }).get? b = some u := fun b u e => Heap.get?_push_of_some _ e
  have dat1 : (s1.heap.push { cls := .type "dict_values", data := .fields #[.ref a] }).DictAt (mixKind X.prog X.w) a vs ep := dat.keep k1
  have hlv : vs.length = is.length := by
    have e1 := congrArg List.length hv
    rw [List.length_map, List.length_map] at e1
    rw [← e1]
    exact (KV.length rel).symm
  have hval : ∀ (i : Nat) (v : Value), (∃ k, vs[i]? = some (k, v)) → ∃ t, v = Value.int (is.getD i 0) t := fun i v ⟨k, hk⟩ => by
    obtain ⟨x, h1, h2⟩ := KV.at' rel hk
    have e1 : (kvs.map (·.2))[i]? = some x := by rw [List.getElem?_map, h1] <;> rfl
    rw [hv, List.getElem?_map] at e1
    obtain ⟨j, hj, e2⟩ := Option.map_eq_some_iff.mp e1
    subst e2
    obtain ⟨t, e3⟩ := h2
    refine ⟨t, ?_⟩
    rw [e3, List.getD_eq_getElem?_getD, hj] <;> rfl
  refine call_sum_walkAnyS (wpAny_pyIter_values (v := s1.heap.objs.size) (d := a) ⟨_, Heap.get?_push_size _ rfl, rfl, rfl⟩ dat1 ?_)
  have hlt : a < s1.heap.objs.size := Heap.lt_size ho
  have hsz : (s1.heap.push { cls := .type "dict_values", data := .fields #[.ref a] }).objs.size = s1.heap.objs.size + 1 := Heap.size_push _ _
  refine ⟨_, _, _, _, _, _, _, fun i => is.getD i 0, rfl, (Walks.dictValues (knd := mixKind X.prog X.w) (A := X.A.in1) (I.ok.hd hc) (s1.heap.push { cls := .type "dict_values", data := .fields #[.ref a] }).objs.size a (by rw [hsz]; exact Nat.ne_of_lt (Nat.lt_succ_of_lt hlt)) vs ep).toS,
    ⟨⟨_, Heap.get?_push_size _ rfl, rfl, rfl⟩, dat1.keep fun b u e => Heap.get?_push_of_some _ e⟩, fun b hb => ?_, hval, fun s' t' hm => ?_⟩
  · show b < ((s1.heap.push _).push _).objs.size
    rw [Heap.size_push, Heap.size_push]
    rw [hsz] at hb
    rcases List.mem_cons.mp hb with e | hb
    · rw [e]
      exact Nat.lt_succ_self _
    · have e : b = a := List.mem_singleton.mp hb
      rw [e]
      exact Nat.lt_succ_of_lt (Nat.lt_succ_of_lt hlt)
  · have hk : ∀ b u, s1.heap.get? b = some u → s'.heap.get? b = some u := fun b u e =>
      hm.heap b u (fun hmem => by
        have e1 : b = (s1.heap.push { cls := .type "dict_values", data := .fields #[.ref a] }).objs.size := List.mem_singleton.mp hmem
        have e2 := Heap.lt_size e
        rw [hsz] at e1
        rw [e1] at e2
        exact absurd e2 (Nat.not_lt.mpr (Nat.le_succ _))) (Heap.get?_push_of_some _ (k1 b u e))
    have hsum : preSum (fun i => is.getD i 0) vs.length = is.sum := by
      rw [preSum_getD, hlv, List.take_length]
    rw [Moved.eq_with hm, hsum]
    exact ⟨.int _, H1, I1.kept (t' := s'.toks) hk, ⟨t', rfl⟩, q⟩
end
end WK
namespace WK
open PySem PySem.Spec PyProof.Rows L2
section
variable {F : Ent} {B H : Hp} {L : Led} {σ : L2.St} {Q : VK} {C : Addr} {m : Str} {sp : Sp} {ta : TE} {t : TA}
def MthQ (C : Addr) (m : Str) (sp : Sp) (t : TA) (σ : L2.St) (Q : VK) : VK := fun x H1 => ∃ a dx fs, x = .ref a ∧ H1 a = some (.ins C dx fs) ∧ fs.lookup m = none ∧ t σ H1 fun vs H2 => sp (x :: vs) H2 Q E0
theorem r_mth (k : ta σ H (MthQ C m sp t σ Q)) : tMth C m sp ta t σ H Q := k
theorem mthQ {a dx : Addr} {fs : List (Str × V)} (h : H a = some (.ins C dx fs)) (hl : fs.lookup m = none) (k : t σ H fun vs H2 => sp (.ref a :: vs) H2 Q E0) : MthQ C m sp t σ Q (.ref a) H := ⟨a, dx, fs, rfl, h, hl, k⟩
def RetQ (x : Addr) (Q : VK) : VK := fun v H2 => v = .non ∧ Q (.ref x) H2
theorem retQ {x : Addr} (k : Q (.ref x) H) : RetQ x Q .non H := ⟨rfl, k⟩
def MkQ (C : Addr) (sp : Sp) (Q : VK) : List V → Hp → Prop := fun vs H1 => ∀ x dx, H1 x = none → H1 dx = none → dx ≠ x → sp (.ref x :: vs) (upd (upd H1 dx (.own x)) x (.ins C dx [])) (RetQ x Q) E0
theorem r_mk (k : t σ H (MkQ C sp Q)) : tMk C sp t σ H Q := k
theorem mkQ {vs : List V} (S : Ok F B L H) (k : ∀ x dx H', Ok F B ((x, .ins C dx []) :: L) H' → sp (.ref x :: vs) H' (RetQ x Q) E0) : MkQ C sp Q vs H := fun x dx hx hdx ne =>
  k x dx _ ((S.junk hdx).newL (by rw [upd_ne (fun z => ne z.symm)]; exact hx))
end
end WK
namespace WK
open PySem PySem.Spec PyProof.Rows L2
/-- a def called with its last parameters by default -/
def FnGD (P : Program) (w : World) (K : PySem.W.Frag) (mg : Str → Option Value) (base : Heap) (k : Nat) (x : Str) (ps : List Str) (dvs : List V) (sp : Sp) : Prop :=
  ∃ f fd ds, FnOk P w K mg base CX0 k f fd ps sp ∧ mg x = some (.ref f) ∧ PySem.W.keepIn K (.ref f) = true ∧ Binds K fd ps ds ∧ Vals dvs ds
def spD (sp : Sp) (dvs : List V) : Sp := fun vs H Q E => sp (vs ++ dvs) H Q E
section
variable {X : Cx} {k : Nat} {x : Str} {ps : List Str} {dvs : List V} {sp : Sp} {e : Expr} {es : List Expr} {p pos : Pos} {t : TA}
end
end WK
namespace WK
open PySem PySem.Spec PyProof.Rows L2
theorem Src.map {α β : Type} {J : It} {GB : Hp → Led → Prop} {as : List α} {g : α → β} {R : Hp → V → β → Prop} (s : Src J GB (as.map g) R) : Src J GB as (fun B x a => R B x (g a)) := by
  obtain ⟨G, Y, w, h1, h2⟩ := s.ex
  rw [List.length_map] at w h2
  refine ⟨G, Y, w, h1, fun F B L i H x H' S q y hi => ?_⟩
  obtain ⟨b, B', e, ex, S', r⟩ := h2 F B L i H x H' S q y hi
  rw [List.getElem?_map] at e
  obtain ⟨a, ha, rfl⟩ := Option.map_eq_some_iff.mp e
  exact ⟨a, B', ha, ex, S', r⟩
end WK
namespace WK
open PySem PySem.Spec PyProof.Rows L2
section
variable {o e : Expr} {es : List Expr} {to : TE} {t : TA} {name : Str} {apos cpos : Pos} {T id : String} {r : V → List V → Hp → VK → Prop} {X : Cx}
theorem pe_bmU (K : PySem.W.Frag) (pa : PlainAttrs T) (slot : Slot T name id) (hty : typeOf (.builtin id) = pure (.type "method_descriptor")) (hm : MtR X id r) (ho : PE X o to) (ha : PA X (e :: es) t)
    (hbase : attributeBase o name X.env (eval o X.env) = eval o X.env := by rfl)
    (hfew : ((backTo cpos (starEach (e :: es) X.env)).all (fun x => !x.1) && (backToKw cpos (keywordEach [] X.env)).all (fun x => x.1.isSome)
      && decide ((e :: es).length + ([] : List Keyword).length + (if ([] : List Keyword).isEmpty then 0 else 1) < 30)) = true := by rfl)
    (hline : (apos.endLine == cpos.line) = true := by rfl) (hs : starEach (e :: es) X.env = (false, eval e X.env) :: starEach es X.env := by rfl) (hplain : (backTo cpos (starEach es X.env)).any (·.1) = false := by rfl) (hK : X.K = K := by rfl) :
    PE X (.Call (.Attribute o name apos) (e :: es) [] cpos) (tBM K T r to t) := by
  subst hK
  exact pe_bm pa slot hty hm ho ha hbase hfew hline hs hplain
end
section
variable {K : PySem.W.Frag} {F : Ent} {B H : Hp} {L : Led} {σ : L2.St} {Q : VK} {to : TE} {t : TA} {T : String} {r : V → List V → Hp → VK → Prop} {v : V} {a : Addr}
def BmQ (K : PySem.W.Frag) (T : String) (r : V → List V → Hp → VK → Prop) (t : TA) (σ : L2.St) (Q : VK) : VK := fun x H1 => tyV K T x H1 ∧ t σ H1 fun xs H2 => r x xs H2 Q
theorem r_bm (k : to σ H (BmQ K T r t σ Q)) : tBM K T r to t σ H Q := k
theorem r_bm0 (k : to σ H (BmQ K T r tNil σ Q)) : tBM0 K T r to σ H Q := k
theorem bmS {z : Str} (k : t σ H fun xs H2 => r (.str z) xs H2 Q) : BmQ K "str" r t σ Q (.str z) H := ⟨rfl, k⟩
theorem bmL {xs : List V} (h : SqL K H a xs) (k : t σ H fun xs H2 => r (.ref a) xs H2 Q) : BmQ K "list" r t σ Q (.ref a) H := ⟨.inl ⟨rfl, xs, h⟩, k⟩
theorem bmD {kvs : List (Key × V)} (h : H a = some (.dK kvs)) (k : t σ H fun xs H2 => r (.ref a) xs H2 Q) : BmQ K "dict" r t σ Q (.ref a) H := ⟨.inr (.inr (.inl ⟨rfl, .inl ⟨kvs, h⟩⟩)), k⟩
end
end WK

namespace WK
open PySem PySem.Spec PyProof.Rows L2
/-! ### data that can be told apart -/
theorem lay_all {ds : List PyData} (h : ∀ d ∈ ds, d.canLay0 = true) : PyData.canLayAll0 ds = true := by
  induction ds with
  | nil => rfl
  | cons d ds ih =>
    show (d.canLay0 && PyData.canLayAll0 ds) = true
    rw [h d (.head _), ih fun x hx => h x (.tail _ hx)]
    rfl
theorem depth_all {ds : List PyData} {n : Nat} (h : ∀ d ∈ ds, d.depth ≤ n) : PyData.depthAll ds ≤ n := by
  induction ds with
  | nil => exact Nat.zero_le _
  | cons d ds ih =>
    show max d.depth (PyData.depthAll ds) ≤ n
    exact Nat.max_le.mpr ⟨h d (.head _), ih fun x hx => h x (.tail _ hx)⟩
/-- shaped, with its depth -/
def Shp (n : Nat) (d : PyData) : Prop := d.canLay0 = true ∧ d.depth ≤ n
theorem Shp.lst {n : Nat} {ds : List PyData} (h : ∀ d ∈ ds, Shp n d) : Shp (n + 1) (.list ds) := ⟨lay_all fun d hd => (h d hd).1, Nat.succ_le_succ (depth_all fun d hd => (h d hd).2)⟩
theorem Shp.tup {n : Nat} {ds : List PyData} (h : ∀ d ∈ ds, Shp n d) : Shp (n + 1) (.tuple ds) := ⟨lay_all fun d hd => (h d hd).1, Nat.succ_le_succ (depth_all fun d hd => (h d hd).2)⟩
theorem Shp.int {n : Nat} {i : Int} : Shp n (.int i) := ⟨rfl, Nat.zero_le _⟩
theorem Shp.bl {n : Nat} {i : Bool} : Shp n (.bool i) := ⟨rfl, Nat.zero_le _⟩
theorem Shp.str {n : Nat} {z : Str} (h : z.cps.all (· < 0x110000) = true) : Shp n (.str z) := ⟨h, Nat.zero_le _⟩
theorem Shp.ok {n : Nat} {d : PyData} (h : Shp n d) (hn : n ≤ 64) : SeqAt.shaped d = true := by
  unfold SeqAt.shaped
  rw [h.1, decide_eq_true (Nat.le_trans h.2 hn)]
  rfl
section
variable {P : Program} {w : World} {K : PySem.W.Frag} {H B : Hp} {Q : VK} {F : Ent} {L : Led} {x y : V} {d : PyData} {n : Nat}
theorem v_neSame (S : Ok F B L H) (h1 : Dp K B x d) (h2 : Dp K B y d) (sh : Shp n d) (hn : n ≤ 64) (k : Q (.bl false) H) : OpU P w K (compareOp .NotEq) x y H Q :=
  .ofK (r := rNeD) (fun _ al => op_neD al.hu64) ⟨d, d, S.dp h1, S.dp h2, sh.ok hn, sh.ok hn, by rw [SeqAt.eqv_refl d sh.1]; exact k⟩
theorem eqV_str {a b : Str} : eqV (.str a) (.str b) = decide (a = b) := by
  show (a == b) = decide (a = b)
  by_cases h : a = b
  · subst h; simp
  · rw [decide_eq_false h]; exact beq_eq_false_iff_ne.mpr h
theorem inV_strs (z : Str) (zs : List Str) : inV (.str z) (zs.map V.str) = decide (z ∈ zs) := by
  unfold inV
  rw [List.any_map]
  induction zs with
  | nil => rfl
  | cons a zs ih =>
    rw [List.any_cons, ih]
    show (eqV (.str a) (.str z) || _) = _
    rw [eqV_str]
    by_cases h : a = z
    · subst h; simp
    · rw [decide_eq_false h, Bool.false_or]
      by_cases h2 : z ∈ zs
      · rw [decide_eq_true h2]; exact (decide_eq_true (List.mem_cons_of_mem _ h2)).symm
      · rw [decide_eq_false h2]; exact (decide_eq_false (fun w => by rcases List.mem_cons.mp w with w | w; exact h w.symm; exact h2 w)).symm
theorem flat_strs (zs : List Str) : (zs.map V.str).all flatV = true := List.all_eq_true.mpr fun x hx => by
  obtain ⟨z, _, rfl⟩ := List.mem_map.mp hx
  rfl
/-- slices of data -/
theorem cutV_to (xs : List V) (j : Nat) : cutV xs none (some (j : Int)) = xs.take j := by
  unfold cutV
  rw [HT.sIx_none, HT.sIx_nat, List.drop_zero, Nat.sub_zero]
  rcases Nat.le_total j xs.length with h | h
  · rw [Nat.min_eq_left h]
  · rw [Nat.min_eq_right h, List.take_length, List.take_of_length_le h]
theorem _root_.L2.DpAll.take {vs : List V} {ds : List PyData} (h : DpAll K B vs ds) (j : Nat) : DpAll K B (vs.take j) (ds.take j) := by
  induction j generalizing vs ds with
  | zero => exact .nil
  | succ j ih =>
    cases h with
    | nil => exact .nil
    | cons h t => exact .cons h (ih t)
theorem _root_.L2.DpAll.drop {vs : List V} {ds : List PyData} (h : DpAll K B vs ds) (j : Nat) : DpAll K B (vs.drop j) (ds.drop j) := by
  induction j generalizing vs ds with
  | zero => exact h
  | succ j ih =>
    cases h with
    | nil => exact .nil
    | cons h t => exact ih t
theorem v_slTo {ds : List PyData} {j : Nat} (S : Ok F B L H) (h : Dp K B x (.list ds)) (k : ∀ r B' H', Ex B B' → Ok F B' L H' → Dp K B' r (.list (ds.take j)) → Q r H') : SlU P w K x none (some (j : Int)) H Q := by
  obtain ⟨a, xs, rfl, hq, ha⟩ := Dp.lst_inv h
  refine .ofK (r := rSlL) (fun _ _ => sl_list) ⟨a, xs, rfl, S.sqB hq, fun p hp => ?_⟩
  rw [cutV_to]
  obtain ⟨B', e, S', hD⟩ := (S.newL (o := .lst (xs.take j)) hp).toData (ha.take j)
  exact k _ _ _ e S' hD
/-- e[::-1] of a list -/
def RevQ (K : PySem.W.Frag) (Q : VK) : VK := fun x H1 => ∃ a xs, x = .ref a ∧ SqL K H1 a xs ∧ ∀ p, H1 p = none → Q (.ref p) (upd H1 p (.lst xs.reverse))
theorem r_revL {te : TE} {σ : L2.St} (k : te σ H (RevQ K Q)) : tRevL K te σ H Q := k
/-! dicts -/
theorem merge_new {acc kvs : List (Key × V)} (nd : ((acc ++ kvs).map (·.1)).Nodup) : mergeK acc kvs = acc ++ kvs := by
  induction kvs generalizing acc with
  | nil => rw [List.append_nil]; rfl
  | cons p kvs ih =>
    have e : acc ++ p :: kvs = (acc ++ [p]) ++ kvs := by rw [List.append_assoc]; rfl
    have h1 : valV acc p.1 = none := valV_none fun z => by
      rw [List.map_append] at nd
      have := (List.nodup_append.mp nd).2.2 _ z p.1 (by simp)
      exact this rfl
    show mergeK (putK acc p.1 p.2) kvs = _
    rw [putK_new _ h1, e]
    exact ih (by rw [← e]; exact nd)
theorem pairs_ex {xs : List V} {m : List (Str × Int)} (h : DpAll K B xs (m.map fun p => .tuple [.str p.1, .int p.2])) (e : Ex B H) : ∃ ps : List Addr, xs = ps.map V.ref ∧ Paired (fun p (kv : Key × V) => SqT K H p [kV kv.1, kv.2]) ps (m.map fun p => ((.inr p.1 : Key), V.int p.2)) := by
  induction m generalizing xs with
  | nil => exact ⟨[], h.nil_inv, .nil⟩
  | cons p m ih =>
    obtain ⟨v, r, rfl, hv, hr⟩ := DpAll.cons_inv h
    obtain ⟨ps, rfl, hp⟩ := ih hr
    obtain ⟨b, ys, rfl, hq, hy⟩ := Dp.tup_inv hv
    obtain ⟨v1, _, rfl, h1, hy⟩ := hy.cons_inv
    obtain ⟨v2, _, rfl, h2, hy⟩ := hy.cons_inv
    obtain rfl := hy.nil_inv
    obtain rfl := h1.str_inv
    obtain rfl := h2.int_inv
    exact ⟨b :: ps, rfl, .cons (e.sqT hq) hp⟩
theorem inr_nodup {names : List Str} (h : names.Nodup) : (names.map (Sum.inr : Str → Key)).Nodup := by
  induction names with
  | nil => exact List.nodup_nil
  | cons s r ih =>
    obtain ⟨h1, h2⟩ := List.nodup_cons.mp h
    refine List.nodup_cons.mpr ⟨fun z => ?_, ih h2⟩
    obtain ⟨x, hx, e⟩ := List.mem_map.mp z
    exact h1 (Sum.inr.inj e ▸ hx)
/-- what a value leads to may be locked behind it -/
def FrzQ (Q : VK) : VK := fun v H' => Q v H' ∨ ∃ d u, H' d = some u ∧ Mut (some u) ∧ ∀ od, Q v (upd H' d (.frz od u))
def tFrzA (t : TE) : TE := fun σ H Q => t σ H (FrzQ Q)
theorem pe_frzA {X : Cx} {e : Expr} {t : TE} (h : PE X e t) : PE X e (tFrzA t) := by
  refine ⟨fun pins s σ H Q I hw => ?_⟩
  refine thn (h.run pins s σ H _ I hw) fun v s' ⟨x, H', I', r, q⟩ => ?_
  rcases q with q | ⟨d, u, hd, mu, q⟩
  · exact ⟨x, H', I', r, q⟩
  · obtain ⟨od, I1⟩ := I'.lock hd mu
    exact ⟨x, _, I1, r, q od⟩
theorem r_frzA {t : TE} {σ : L2.St} (k : t σ H (FrzQ Q)) : tFrzA t σ H Q := k
theorem frzQ {v : V} {d : Addr} {u : HO} (h : H d = some u) (mu : Mut (some u)) (k : ∀ od, Q v (upd H d (.frz od u))) : FrzQ Q v H := .inr ⟨d, u, h, mu, k⟩
end
end WK
namespace WK
open PySem PySem.Spec PyProof.Rows L2
/-! cuts -/
def tCut (t : TE) : TE := fun σ H Q => ∃ R : VK, t σ H R ∧ ∀ v H', R v H' → Q v H'
theorem pe_cut {X : Cx} {e : Expr} {t : TE} (h : PE X e t) : PE X e (tCut t) := by
  refine ⟨fun pins s σ H Q I hw => ?_⟩
  obtain ⟨R, h1, h2⟩ := hw
  exact thn (h.run pins s σ H R I h1) fun v s' ⟨x, H', I', r, q⟩ => ⟨x, H', I', r, h2 _ _ q⟩
theorem cutE {t : TE} {σ : L2.St} {H : Hp} {Q : VK} (R : VK) (h : t σ H R) (k : ∀ v H', R v H' → Q v H') : tCut t σ H Q := ⟨R, h, k⟩
def tCutS (t : TS) : TS := fun D σ H => ∃ N : L2.St → Hp → Prop, t { D with nx := N } σ H ∧ ∀ σ' H', N σ' H' → D.nx σ' H'
theorem ps_cut {X : Cx} {st : Stmt} {t : TS} (h : PS X st t) : PS X st (tCutS t) := by
  refine ⟨fun pins s σ H D I hw => ?_⟩
  obtain ⟨N, h1, h2⟩ := hw
  refine thn (h.run pins s σ H _ I h1) fun fl s' q => ?_
  cases fl with
  | next =>
    obtain ⟨σ', H', I', q⟩ := q
    exact ⟨σ', H', I', h2 _ _ q⟩
  | ret v => exact q
  | brk => exact q
  | cont => exact q
theorem cutS {t : TS} {σ : L2.St} {H : Hp} {D : Ends} (N : L2.St → Hp → Prop) (h : t { D with nx := N } σ H) (k : ∀ σ' H', N σ' H' → D.nx σ' H') : tCutS t D σ H := ⟨N, h, k⟩
end WK
namespace WK
open PySem PySem.Spec PyProof.Rows L2
/-- a comprehension over a list of data, any invariant -/
theorem lcDL {α : Type} {F : Ent} {B H1 : Hp} {L : Led} {σ : L2.St} {K : PySem.W.Frag} {P : Program} {w : World} {tg : Expr} {as : List α} {enc : α → PyData} {v : V} {g : TG} {tt : TT} {te : TE} {vs : List Nat} {Q : VK} (S : Ok F B L H1) (h : Dp K B v (.list (as.map enc))) (I : Nat → List V → Hp → Led → Prop) (h0 : I 0 [] B L)
    (hs : ∀ i a x acc B0 B1 L D H, as[i]? = some a → I i acc B0 L → Ex B B0 → Ex B0 B1 → Ok F B1 ((D, .lst acc) :: L) H → Dp K B1 x (enc a) → g x (wipe σ vs) H fun σ2 H2 => wipe σ2 vs = wipe σ vs ∧ tt σ2 H2 fun b H3 =>
      if b = true then te σ2 H3 (Acc F (fun acc B1 L1 => Ex B B1 ∧ I (i + 1) acc B1 L1) D) else Skp F (fun acc B1 L1 => Ex B B1 ∧ I (i + 1) acc B1 L1) D H3)
    (hd : ∀ acc B1 L D H, I as.length acc B1 L → Ex B B1 → Ok F B1 ((D, .lst acc) :: L) H → Q (.ref D) H) : ItU P w K tg v H1 (LcW g tt te vs σ Q) := by
  obtain ⟨a, xs, rfl, hq, ha⟩ := Dp.lst_inv h
  refine ItU.list (S.sqB hq) (lcD (src_lst (xs := xs) (as := as) (enc := enc)) S (fun i acc B1 L1 => Ex B B1 ∧ I i acc B1 L1) ⟨Ex.refl _, h0⟩ ?_ ?_ ?_)
  · rintro i acc B1 L1 D _ ⟨e, _⟩
    exact ⟨.inl (e.sqL hq), ha.up e⟩
  · rintro i a x acc B0 B1 L1 D H hget ⟨e, q⟩ e1 S1 hx
    exact hs i a x acc B0 B1 L1 D H hget q e e1 S1 hx
  · rintro acc B1 L1 D H ⟨e, q⟩ S1
    exact hd acc B1 L1 D H q e S1
end WK

namespace WK
open PySem PySem.Spec PyProof.Rows L2 PySem.W PySem.Calls
/-! a, *r = a list -/
section
variable {X : Cx} {pos : Pos}
def gStar (K : PySem.W.Frag) (n i : Nat) (t : TGs) : TG := fun v σ H Q => ∃ a xs, v = .ref a ∧ SqL K H a xs ∧ n ≤ xs.length + 1 ∧ xs.length ≤ 16384 ∧
  ∀ p, H p = none → t (xs.take i ++ [.ref p] ++ (xs.drop i).drop (xs.length + 1 - n)) σ (upd H p (.lst ((xs.drop i).take (xs.length + 1 - n)))) Q
end
end WK
namespace WK
open PySem PySem.Spec PyProof.Rows L2
end WK
namespace WK
open PySem PySem.Spec PyProof.Rows L2
/-! texts -/
def numS (i : Int) : Str := (toString i : String)
section
variable {P : Program} {w : World} {K : PySem.W.Frag} {H B : Hp} {Q : VK} {F : Ent} {L : Led} {x : V}
end
end WK
namespace WK
open PySem PySem.Spec PyProof.Rows L2
end WK
namespace WK
open PySem PySem.Spec PyProof.Rows L2
end WK

namespace WK
open PySem PySem.Spec PyProof.Rows L2
theorem r_rU {g : Int → V} {i : Int} {H : Hp} {Q : VK} (k : Q (g i) H) : rU g (.int i) H Q := ⟨i, rfl, k⟩
/-! lists compared by their lengths -/
section
variable {X : Cx}
theorem op_neLen (hu : X.A.units + 64 < cLine) : OpR X (compareOp .NotEq) (fun x y H Q => ∃ a b xs ys, x = .ref a ∧ y = .ref b ∧ SqL X.K H a xs ∧ SqL X.K H b ys ∧ (xs.length ≠ ys.length ∨ (xs = [] ∧ ys = [])) ∧ Q (.bl (!decide (xs.length = ys.length))) H) := by
  intro pins s σ H x y v u Q I rx ry h
  obtain ⟨a, b, xs, ys, rfl, rfl, h1, h2, h3, q⟩ := h
  cases rx
  cases ry
  obtain ⟨is, r1, p1, _⟩ := I.list h1
  obtain ⟨js, r2, p2, _⟩ := I.list h2
  have l1 := r1.length
  have l2 := r2.length
  rcases h3 with h3 | ⟨rfl, rfl⟩
  · refine (SeqAt.RcNeAt.lists_lengths p1.isList p2.isList (by simp only [List.size_toArray, bne_iff_ne, ne_eq]; omega) (by omega)) X.prog X.w X.xe _ ⟨.bl _, H, I, rfl, ?_⟩
    rw [decide_eq_false h3] at q
    exact q
  · have e1 : is = [] := List.eq_nil_of_length_eq_zero (by rw [← l1]; rfl)
    have e2 : js = [] := List.eq_nil_of_length_eq_zero (by rw [← l2]; rfl)
    subst e1
    subst e2
    refine (SeqAt.RcNeAt.lists (e := fun _ => true) p1.isList p2.isList rfl (by omega) (fun j j1 j2 => absurd j1 (Nat.not_lt_zero _))) X.prog X.w X.xe _ ⟨.bl _, H, I, rfl, q⟩
end
section
variable {P : Program} {w : World} {K : PySem.W.Frag} {H : Hp} {Q : VK} {a b : Addr} {xs ys : List V}
theorem v_neLen (h1 : SqL K H a xs) (h2 : SqL K H b ys) (h3 : xs.length ≠ ys.length ∨ (xs = [] ∧ ys = [])) (k : Q (.bl (!decide (xs.length = ys.length))) H) : OpU P w K (compareOp .NotEq) (.ref a) (.ref b) H Q :=
  .ofK (r := fun K x y H Q => ∃ a b xs ys, x = .ref a ∧ y = .ref b ∧ SqL K H a xs ∧ SqL K H b ys ∧ (xs.length ≠ ys.length ∨ (xs = [] ∧ ys = [])) ∧ Q (.bl (!decide (xs.length = ys.length))) H) (fun _ al => op_neLen al.hu64) ⟨a, b, xs, ys, rfl, rfl, h1, h2, h3, k⟩
end
end WK
namespace WK
open PySem PySem.Spec PyProof.Rows L2
section
variable {F : Ent} {B H : Hp} {L : Led}
theorem nodup_pick {α : Type} {l : List α} (h : l.Nodup) : ∀ (is : List Nat), is.Nodup → (is.filterMap (l[·]?)).Nodup
  | [], _ => List.nodup_nil
  | i :: is, hn => by
    obtain ⟨h1, h2⟩ := List.nodup_cons.mp hn
    have ih := nodup_pick h is h2
    cases e : l[i]? with
    | none => rw [List.filterMap_cons_none e]; exact ih
    | some x =>
      rw [List.filterMap_cons_some e]
      refine List.nodup_cons.mpr ⟨fun hx => ?_, ih⟩
      obtain ⟨j, hj, ej⟩ := List.mem_filterMap.mp hx
      have := (List.getElem?_inj (List.getElem?_eq_some_iff.mp e).1 h).mp (e.trans ej.symm)
      exact h1 (this ▸ hj)
/-- some of the ledger, in another turn -/
theorem Ok.pick (S : Ok F B L H) (is : List Nat) (nd : is.Nodup) : Ok F B (is.filterMap (L[·]?)) H := by
  have hm : ∀ q ∈ is.filterMap (L[·]?), q ∈ L := fun q hq => by
    obtain ⟨j, _, ej⟩ := List.mem_filterMap.mp hq
    exact List.mem_of_getElem? ej
  refine ⟨S.ex, ?_, fun q hq => S.own q (hm q hq), S.ex0, S.keep, S.kA, S.fB, fun q hq => S.fL q (hm q hq)⟩
  have := nodup_pick S.nd is nd
  rw [List.map_filterMap]
  simpa only [List.getElem?_map] using this
end
/-- one of two promises -/
def spOr (a b : Sp) : Sp := fun vs H Q E => a vs H Q E ∨ b vs H Q E
end WK
namespace WK
open PySem PySem.Spec PyProof.Rows L2
section
variable {X : Cx}
theorem op_eqTNil (hu : X.A.units + 64 < cLine) : OpR X (compareOp .Eq) (fun x y H Q => ∃ a b xs, x = .ref a ∧ y = .ref b ∧ SqT X.K H a xs ∧ SqT X.K H b [] ∧ Q (.bl xs.isEmpty) H) := by
  intro pins s σ H x y v u Q I rx ry h
  obtain ⟨a, b, xs, rfl, rfl, h1, h2, q⟩ := h
  cases rx
  cases ry
  obtain ⟨is, r1, p1, _⟩ := I.tuple h1
  obtain ⟨js, r2, p2, _⟩ := I.tuple h2
  have l1 := r1.length
  have e2 : js = [] := List.eq_nil_of_length_eq_zero (by rw [← r2.length]; rfl)
  subst e2
  refine SeqAt.eq_tupleAt (e := fun _ => true) (show s.heap.IsTuple a is.toArray from p1) (show s.heap.IsTuple b #[] from p2) (by omega) (fun j j1 j2 => absurd j2 (Nat.not_lt_zero _)) ⟨.bl _, H, I, rfl, ?_⟩
  have e : ((List.range (min is.toArray.size (#[] : Array Value).size)).all (fun _ => true) && is.toArray.size == (#[] : Array Value).size) = xs.isEmpty := by
    cases xs with
    | nil =>
      have : is = [] := List.eq_nil_of_length_eq_zero (by rw [← l1]; rfl)
      subst this
      rfl
    | cons x xs =>
      cases is with
      | nil => simp at l1
      | cons i is => simp
  rw [e]
  exact q
end
section
variable {P : Program} {w : World} {K : PySem.W.Frag} {F : Ent} {B H : Hp} {L : Led} {Q : VK} {a b p : Addr} {xs : List V}
theorem v_eqTNil (h1 : SqT K H a xs) (h2 : SqT K H b []) (k : Q (.bl xs.isEmpty) H) : OpU P w K (compareOp .Eq) (.ref a) (.ref b) H Q :=
  .ofK (r := fun K x y H Q => ∃ a b xs, x = .ref a ∧ y = .ref b ∧ SqT K H a xs ∧ SqT K H b [] ∧ Q (.bl xs.isEmpty) H) (fun _ al => op_eqTNil al.hu64) ⟨a, b, xs, rfl, rfl, h1, h2, k⟩
/-- data == (): by its count -/
theorem v_eqTNilD {v : V} {ds : List PyData} (S : Ok F B L H) (h1 : Dp K B v (.tuple ds)) (h2 : SqT K H b []) (k : Q (.bl ds.isEmpty) H) : OpU P w K (compareOp .Eq) v (.ref b) H Q := by
  obtain ⟨a, xs, rfl, hq, ha⟩ := Dp.tup_inv h1
  refine v_eqTNil (S.tqB hq) h2 ?_
  have e : xs.isEmpty = ds.isEmpty := by
    cases ha with
    | nil => rfl
    | cons _ _ => rfl
  rw [e]
  exact k
end
end WK

namespace WK
open PySem PySem.Spec PyProof.Rows L2
/-! enumerate over a list or a tuple -/
theorem isT_of {h : Heap} {a : Addr} {its : List Value} (p : IsTup h a its.toArray) : h.IsTuple a its.toArray := p
set_option maxHeartbeats 1000000 in
theorem enumNew1 {v : Value} {ob : Obj} {C : Heap → Prop} (Bg : Begins v ob C) :
    Meets (Builtin.«enumerate.__new__» ⟨[.type "enumerate", v], []⟩) (fun _ R sh => C sh.heap ∧ R (.ok (.ret (.ref (sh.heap.push ob).objs.size)))
      { sh with heap := (sh.heap.push ob).push { cls := .type "enumerate", data := .fields #[.none, .bool false, .ref sh.heap.objs.size, rawInt 0, .none, .none] } }) :=
  .of_wp fun pg wd Ar R sh hh => by
    obtain ⟨hp, gs, dr, tks, osx⟩ := sh; obtain ⟨hC, hR⟩ := hh
    have hs1 := sub_enumerate
    have itr : ∀ {A' : Around} {E' : Value → Shared → Prop} {Q' : Value → Shared → Prop}, Q' (.ref hp.objs.size) ⟨hp.push ob, gs, dr, tks, osx⟩ → wpAny (model pg wd) A' (pyIter v) Q' E' ⟨hp, gs, dr, tks, osx⟩ := fun q => Bg.iter pg wd _ _ ⟨hp, gs, dr, tks, osx⟩ _ hC q
    wp_walk using itr
    refine wpAny_stack_any fun stk => wpAny_pure ?_
    split
    · rename_i cc _ _ _ _ _
      cases (cc == Value.type "enumerate") <;> (wp_walk using itr; exact ⟨_, rfl, hR⟩)
    · wp_walk using itr
      exact ⟨_, rfl, hR⟩
theorem callEnum1 {P : Program} {w : World} {A : Around} {E : Value → Shared → Prop} {s : Shared} {v : Value} {ob : Obj} {C : Heap → Prop} {Q : Value → Shared → Prop} (Bg : Begins v ob C) (hC : C s.heap)
    (h : ∀ h', IsEnum h' (s.heap.objs.size + 1) s.heap.objs.size 0 .none → h'.get? s.heap.objs.size = some ob → (∀ b o, s.heap.get? b = some o → h'.get? b = some o) → Q (.ref (s.heap.objs.size + 1)) { s with heap := h' }) :
    wpAny (model P w) A (call (.type "enumerate") [v]) Q E s := by
  have hz : (s.heap.push ob).objs.size = s.heap.objs.size + 1 := Heap.size_push ..
  have he : IsEnum ((s.heap.push ob).push { cls := .type "enumerate", data := .fields #[.none, .bool false, .ref s.heap.objs.size, rawInt 0, .none, .none] }) (s.heap.objs.size + 1) s.heap.objs.size 0 .none := by
    have e1 := Heap.get?_push_size (s.heap.push ob) (o := { cls := .type "enumerate", data := .fields #[.none, .bool false, .ref s.heap.objs.size, rawInt 0, .none, .none] }) rfl
    rw [hz] at e1
    exact e1
  refine callType_new F.called_enumerate (by decide) (F.typeCall_enumerate_1 v) (F.newCall_enumerate_1 v) (fun x => F.args_object_init_2 x v) F.entry_enumerate_new (enumNew1 Bg) ⟨hC, ?_⟩
  show _ ∧ _
  rw [hz]
  exact ⟨⟨_, he, rfl⟩, h _ he (Heap.get?_push_of_some _ (Heap.get?_push_size _ Bg.free)) fun b o x => Heap.get?_push_of_some _ (Heap.get?_push_of_some _ x)⟩
/-- the tuple at a, each item in a new pair -/
def Itet (K : PySem.W.Frag) (a : Addr) : It :=
  ⟨fun i H => ∃ (xs : List V) (x : V), SqT K H a xs ∧ xs[i]? = some x, fun i H v H' => ∃ T x, v = .ref T ∧ H T = none ∧ H' = upd H T (.tup [.int (i : Nat), x]) ∧ ∀ xs, SqT K H a xs → xs[i]? = some x, fun i H => ∃ xs : List V, SqT K H a xs ∧ xs.length ≤ i⟩
theorem turn_enumT {P : Program} {w : World} {K : PySem.W.Frag} {elts : List Expr} {kk : Nat} {tpos : Pos} (a e it : Addr) :
    Turn P w K (.Tuple elts kk tpos) (Itet K a) [e, it] e (fun i h => (∃ old, IsEnum h e it ((i : Nat) : Int) old) ∧ h.IsTupleIter it a i ∧ e ≠ it) where
  mem := by simp
  obj := fun i h st b hb => by
    obtain ⟨⟨od, h1⟩, ⟨ob, h2, h3, h4⟩, _⟩ := st
    rcases (show b = e ∨ b = it by simpa using hb) with z | z
    · rw [z]
      exact ⟨_, h1, fun v q => nomatch q⟩
    · rw [z]
      exact ⟨ob, h2, fun v q => by rw [h4] at q; cases q⟩
  keep := fun i h h' st kp => let ⟨⟨od, h1⟩, h2, h3⟩ := st; ⟨⟨od, kp e (by simp) _ h1⟩, h2.at fun o q => kp it (by simp) o q, h3⟩
  item := by
    intro X hP hw hK hc i pins s σ H E I hf st hg
    subst hP hw hK
    obtain ⟨⟨od, h1⟩, h2, hne⟩ := st
    obtain ⟨xs, x, hq, hx⟩ := hg
    obtain ⟨its, rv, p, hz⟩ := I.tuple hq
    obtain ⟨u0, hu0, ru0⟩ := rv.get hx
    have pT := isT_of p
    have hel : e < s.heap.objs.size := Heap.lt_size h1
    have hil : it < s.heap.objs.size := by obtain ⟨_, q, _⟩ := h2; exact Heap.lt_size q
    have nea : e ≠ a := fun z => by
      obtain ⟨o, q, c, _⟩ := pT
      rw [← z, h1] at q
      cases q
      exact absurd (show Value.type "enumerate" = Value.type "tuple" from c) (by decide)
    have nia : a ≠ it := fun z => by
      obtain ⟨o, q, c, _⟩ := pT
      obtain ⟨o2, q2, c2, _⟩ := h2
      rw [z, q2] at q
      cases q
      rw [c2] at c
      exact absurd c (by decide)
    have hlt : i < its.toArray.size := by
      have := (List.getElem?_eq_some_iff.mp hu0).1
      simpa using this
    refine wpAny_pyNext_enum_itemC (Draws.tuple (A := X.A.in1) (I.ok.hd hc) it a nia its.toArray) h1 ⟨h2, pT⟩ hlt hne (by simp [hne, nea]) fun u h' tk pu ho st' hT hsz hk => ?_
    have eu : u = u0 := by
      have e1 : its.toArray[i]? = some u0 := by simpa using hu0
      rw [e1] at pu
      exact (Option.some.inj pu).symm
    subst eu
    refine ⟨_, rfl, wpAny_letOwnedTupleGo_enum (s := { s with heap := h', toks := tk + 1 }) ho fun hb he' sb => ?_⟩
    have hT2 : hb.get? s.heap.objs.size = some { cls := .type "tuple", data := .seq #[.int i tk, u] } := (sb.2 _ (Nat.ne_of_gt hel)).trans hT
    have nw : ObjOk X.prog X.w (upd H s.heap.objs.size (.tup [.int (i : Nat), x])) hb s.heap.objs.size (.tup [.int (i : Nat), x]) := ⟨by show 2 ≤ sizeLine; decide, [.int i tk, u], .cons ⟨_, rfl⟩ (.cons ru0 .nil), ⟨_, hT2, rfl, _, rfl⟩⟩
    have J1 : Inv X pins σ (upd H s.heap.objs.size (.tup [.int (i : Nat), x])) { s with heap := hb, toks := tk + 1 } :=
      I.turnedNew (ch := [e, it]) (fun b ob hbm q => (sb.2 b (fun z => hbm (by simp [z]))).trans (hk b ob (fun z => hbm (by simp [z])) (fun z => hbm (by simp [z])) q)) hf (Nat.le_refl _) nw
    refine ⟨.ref s.heap.objs.size, _, J1, rfl, ⟨_, x, rfl, I.hok.fresh (Nat.le_refl _), rfl, fun ys hy => by rw [I.tuple_inj hy hq]; exact hx⟩, ⟨⟨u, ?_⟩, st'.1.at fun o q => (sb.2 it (Ne.symm hne)).trans q, hne⟩, fun b hbm => ?_⟩
    · rw [show ((i + 1 : Nat) : Int) = (i : Int) + 1 by omega]
      exact he'
    · have hlt' : b < s.heap.objs.size := by
        rcases (show b = e ∨ b = it by simpa using hbm) with z | z
        · rw [z]; exact hel
        · rw [z]; exact hil
      rw [upd_ne (Nat.ne_of_lt hlt')]
      exact (hf b hbm).1
  done := by
    intro X hP hw hK hc i pins s σ H E I hf st hg
    subst hP hw hK
    obtain ⟨⟨od, h1⟩, h2, hne⟩ := st
    obtain ⟨xs, hq, hx⟩ := hg
    obtain ⟨its, rv, p, hz⟩ := I.tuple hq
    have pT := isT_of p
    obtain ⟨f0, f1, f2, f3, f4, f5⟩ := hf it (by simp)
    have hl := rv.length
    have nia : a ≠ it := fun z => by
      obtain ⟨o, q, c, _⟩ := pT
      obtain ⟨o2, q2, c2, _⟩ := h2
      rw [z, q2] at q
      cases q
      rw [c2] at c
      exact absurd c (by decide)
    have fin : ∀ (s' : Shared) (E' : Value → Shared → Prop) (Q' : Value → Shared → Prop), s'.heap.IsTupleIter it a i → s'.heap.IsTuple a its.toArray → (∀ h' e', Heap.ExtBut it s'.heap h' → (∃ o, h'.get? e' = some o ∧ o.cls = .type "StopIteration") → E' (.ref e') { s' with heap := h' }) →
        wpAny (model X.prog X.w) X.A.in1 (Builtin.SmallTypes.nextOf (.ref it)) Q' E' s' := fun s' E' Q' a1 a2 a3 => wpAny_nextOf_tuple_end (I.ok.hd hc) a1 a2 (by simp; omega) a3
    have D : Draws X.prog X.w X.A.in1 it [it, a] i (fun _ _ => False) (fun j h => j = i ∧ h.IsTupleIter it a i ∧ h.IsTuple a its.toArray) :=
      { live := fun _ _ q => let ⟨o, ho, _⟩ := q.2.1; ⟨o, ho⟩
        frame := fun _ _ _ q kp => ⟨q.1, q.2.1.at fun o y => kp it (by simp) o y, q.2.2.at fun o y => kp a (by simp) o y⟩
        item := fun j s' Q' E' hj q _ => absurd q.1 (Nat.ne_of_lt hj)
        done := fun s' Q' E' q hE => fin s' E' Q' q.2.1 q.2.2 hE }
    exact wpAny_pyNext_enum_endD D h1 ⟨rfl, h2, pT⟩ fun h' eb => ⟨rfl, I.turned (t' := s.toks) (fun b o hb q => eb b o hb q) f0 f1 f3 f4 f5⟩
  self := fun A i s Q E st h => let ⟨⟨_, h1⟩, _⟩ := st; wpAny_pyIter_enum h1 h
def iEnumV (K : PySem.W.Frag) (ta : TA) : TI := fun σ H R => ta σ H fun vs H1 => ∃ a xs, vs = [.ref a] ∧ ((SqL K H1 a xs ∧ R (Ite K a) H1) ∨ (SqT K H1 a xs ∧ R (Itet K a) H1))
theorem pi_enumV {X : Cx} {e : Expr} {ta : TA} {p pos tpos : Pos} {elts : List Expr} {kk : Nat} (hg : Gl X "enumerate") (hm : X.mg "enumerate" = none) (ha : PA X [e] ta) (hs : starEach [e] X.env = [(false, eval e X.env)] := by rfl) :
    PI X (.Tuple elts kk tpos) (.Call (.Name "enumerate" p) [e] [] pos) (iEnumV X.K ta) := by
  refine ⟨fun pins s σ H R I h => ?_⟩
  refine Call_ (ld_blt I hg hm boot_enumerate (PyProof.Rows.callWith_type1 (thn (ha.run pos pins s σ H _ I h) fun us s1 ⟨vs, H1, I1, r1, q1⟩ => ?_) hs rfl))
  obtain ⟨a, xs, rfl, q⟩ := q1
  cases r1 with
  | cons r rr =>
    cases rr
    cases r
    have fpk : ∀ (b : Addr), b ∈ [s1.heap.objs.size + 1, s1.heap.objs.size] → FpOk X pins H1 b := fun b hb => by
      have hle : s1.heap.objs.size ≤ b := by
        rcases (show b = s1.heap.objs.size + 1 ∨ b = s1.heap.objs.size by simpa using hb) with z | z
        · rw [z]; exact Nat.le_add_right _ _
        · rw [z]; exact Nat.le_refl _
      exact I1.fpOk hle (I1.hok.fresh hle)
    rcases q with ⟨hq, q⟩ | ⟨hq, q⟩
    · obtain ⟨its, rv, p', hz⟩ := I1.list hq
      exact call_enumerate_list p'.isList fun h' he hit hsz hk => wpAny_pyIter_enum he ⟨s1.heap.objs.size + 1, _, _, _, H1, rfl, I1.kept (t' := s1.toks) hk, turn_enum a (s1.heap.objs.size + 1) s1.heap.objs.size, ⟨⟨.none, he⟩, hit, Nat.succ_ne_self _⟩, fpk, q⟩
    · obtain ⟨its, rv, p', hz⟩ := I1.tuple hq
      exact callEnum1 (begins_tuple a its.toArray) (isT_of p') fun h' he hit hk => wpAny_pyIter_enum he ⟨s1.heap.objs.size + 1, _, _, _, H1, rfl, I1.kept (t' := s1.toks) hk, turn_enumT a (s1.heap.objs.size + 1) s1.heap.objs.size, ⟨⟨.none, he⟩, ⟨_, hit, rfl, rfl⟩, Nat.succ_ne_self _⟩, fpk, q⟩
def EnvQ (K : PySem.W.Frag) (R : It → Hp → Prop) : List V → Hp → Prop := fun vs H1 => ∃ a xs, vs = [.ref a] ∧ ((SqL K H1 a xs ∧ R (Ite K a) H1) ∨ (SqT K H1 a xs ∧ R (Itet K a) H1))
theorem r_enumV {K : PySem.W.Frag} {σ : L2.St} {H : Hp} {R : It → Hp → Prop} {ta : TA} (k : ta σ H (EnvQ K R)) : iEnumV K ta σ H R := k
section
variable {α : Type} {K : PySem.W.Frag} {a : Addr} {xs : List V}
theorem walk_enumT : Walk (Itet K a) xs.length (fun H => SqT K H a xs) fun i H x H' => ∃ T y, x = .ref T ∧ H T = none ∧ H' = upd H T (.tup [.int (i : Nat), y]) ∧ xs[i]? = some y where
  goes := fun i H hi g => ⟨xs, _, g, List.getElem?_eq_getElem hi⟩
  stops := fun H g => ⟨xs, g, Nat.le_refl _⟩
  yields := fun i H x H' hi g y => by
    obtain ⟨T, z, e1, e2, e3, e4⟩ := y
    exact ⟨T, z, e1, e2, e3, e4 xs g⟩
/-- one's own list that is walked with its places -/
abbrev PrE (K : PySem.W.Frag) (enc : α → PyData) : Hp → V → α × Nat → Prop := fun B x y => ∃ T u, x = .ref T ∧ B T = some (.tup [.int (y.2 : Nat), u]) ∧ Dp K B u (enc y.1)
theorem src_enumT {as : List α} {enc : α → PyData} : Src (Itet K a) (fun B _ => SqT K B a xs ∧ DpAll K B xs (as.map enc)) as.zipIdx (PrE K enc) := by
  by_cases hl : xs.length = as.length
  · refine ⟨_, _, (by rw [List.length_zipIdx]; exact hl ▸ walk_enumT (xs := xs)), fun F B L H S g => S.tqB g.1, fun F B L i H x H' S g y hi => ?_⟩
    obtain ⟨T, y', rfl, n, rfl, e2⟩ := y
    obtain ⟨d, hd, hx⟩ := g.2.get e2
    rw [List.getElem?_map] at hd
    cases e : as[i]? with
    | none => rw [e] at hd; cases hd
    | some z =>
      rw [e] at hd
      cases hd
      exact ⟨(z, i), upd B T (.tup [.int (i : Nat), y']), getElem_zipIdx e, S.exB n, S.newB n, T, y', rfl, upd_same, hx.up (S.exB n)⟩
  · refine ⟨fun _ => False, fun _ _ _ _ => False, ⟨fun _ _ _ h => h.elim, fun _ h => h.elim, fun _ _ _ _ _ h => h.elim⟩, fun F B L H S g => hl ?_, fun F B L i H x H' S g y hi => y.elim⟩
    have := g.2.length
    rw [List.length_map] at this
    exact this
theorem Src.weak {J : It} {GB GB' : Hp → Led → Prop} {as : List α} {R : Hp → V → α → Prop} (s : Src J GB as R) (h : ∀ B L, GB' B L → GB B L) : Src J GB' as R := by
  obtain ⟨G, Y, wk, h1, h2⟩ := s.ex
  exact ⟨G, Y, wk, fun F B L H S g => h1 F B L H S (h B L g), fun F B L i H x H' S g => h2 F B L i H x H' S (h B L g)⟩
/-- data walked with places: a list or a tuple -/
theorem enuD {F : Ent} {B H : Hp} {L : Led} {R : It → Hp → Prop} {as : List α} {enc : α → PyData} {v : V} (S : Ok F B L H) (h : Dp K B v (.list (as.map enc)) ∨ Dp K B v (.tuple (as.map enc)))
    (k : ∀ J, Src J (fun B' _ => Ex B B') as.zipIdx (PrE K enc) → R J H) : EnvQ K R [v] H := by
  rcases h with h | h
  · obtain ⟨a, xs, rfl, hq, ha⟩ := Dp.lst_inv h
    exact ⟨a, xs, rfl, .inl ⟨S.sqB hq, k _ (src_enum.weak fun B' L' (e : Ex B B') => ⟨.inl (e.sqL hq), ha.up e⟩)⟩⟩
  · obtain ⟨a, xs, rfl, hq, ha⟩ := Dp.tup_inv h
    exact ⟨a, xs, rfl, .inr ⟨S.tqB hq, k _ (src_enumT.weak fun B' L' (e : Ex B B') => ⟨e.sqT hq, ha.up e⟩)⟩⟩
end
end WK

namespace WK
open PySem PySem.Spec PyProof.Rows L2
theorem pe_bt {X : Cx} {x : Str} {n : String} {pos : Pos} (hm : X.mg x = none) (hv : bootBuiltins x = some (.type n)) (hg : Gl X x) (hn : x ≠ "__name__" := by decide) (hd : (x == ("__debug__" : Str)) = false := by decide) : PE X (.Name x pos) (tC (.ty n)) :=
  pe_bltn hg hm hv (show RelV (.ty n) (.type n) from rfl) hn hd
/-! isinstance of data -/
def tyD : PyData → String
  | .none => "NoneType"
  | .bool _ => "bool"
  | .int _ => "int"
  | .str _ => "str"
  | .list _ => "list"
  | .tuple _ => "tuple"
  | _ => ""
def isT (a b : String) : Bool := a == b || (a == "bool" && b == "int")
section
variable {P : Program} {w : World} {K : PySem.W.Frag} {F : Ent} {B H : Hp} {L : Led} {Q : VK} {v : V} {d : PyData} {a : Addr} {xs : List V}
theorem tyx_L (h : SqL K H a xs) : TyX K H (.ref a) (.type "list") := by
  rcases h with (h | ⟨o, h⟩) | ⟨o, _, _, e, c, _⟩
  · exact .base (.lst h)
  · exact .base (.frz h)
  · exact .kList e c
theorem tyx_T (h : SqT K H a xs) : TyX K H (.ref a) (.type "tuple") := by
  rcases h with (h | ⟨o, h⟩) | ⟨o, _, _, e, c, _⟩
  · exact .base (.tup h)
  · exact .fTuple h
  · exact .kTuple e c
theorem tyx_D (h : Dp K H v d) : TyX K H v (.type (tyD d)) := by
  cases h with
  | non => exact .base .non
  | bl b => exact .base (.bl b)
  | int i => exact .base (.int i)
  | str x => exact .base (.str x)
  | lst h _ => exact tyx_L h
  | tup h _ => exact tyx_T h
abbrev kTypes : List String := ["list", "tuple", "str", "int", "bool"]
theorem kitB_D (h : Dp K H v d) {T : String} (hT : T ∈ kTypes) : kitB (tyD d) T = some (isT (tyD d) T) := by
  have key : ∀ a ∈ ["NoneType", "bool", "int", "str", "list", "tuple"], ∀ b ∈ kTypes, kitB a b = some (isT a b) := by decide +kernel
  refine key (tyD d) ?_ T hT
  cases h <;> simp [tyD]
theorem v_isiD {T : String} (S : Ok F B L H) (h : Dp K B v d) (hT : T ∈ kTypes) (k : Q (.bl (isT (tyD d) T)) H) : CallU P w K (.builtin "isinstance") [v, .ty T] H Q :=
  .ofK (r := rIsi) (fun _ _ => call_isi) ⟨v, .ty T, .type (tyD d), .type T, _, rfl, .ty T, tyx_D (S.dp h), kit_ty (kitB_D h hT), k⟩
end
/-- what may be compared place by place -/
def AlOk : Nat → PyData → Prop
  | _, .none => True
  | _, .bool _ => True
  | _, .int _ => True
  | _, .str _ => True
  | n + 1, .list ds => ds.length ≤ 100000 ∧ ∀ d ∈ ds, AlOk n d
  | n + 1, .tuple ds => ds.length ≤ 100000 ∧ ∀ d ∈ ds, AlOk n d
  | _, _ => False
theorem AlOk.lst {n : Nat} {ds : List PyData} (h : ds.length ≤ 100000) (k : ∀ d ∈ ds, AlOk n d) : AlOk (n + 1) (.list ds) := ⟨h, k⟩
theorem AlOk.tup {n : Nat} {ds : List PyData} (h : ds.length ≤ 100000) (k : ∀ d ∈ ds, AlOk n d) : AlOk (n + 1) (.tuple ds) := ⟨h, k⟩
theorem AlOk.int {n : Nat} {i : Int} : AlOk n (.int i) := by cases n <;> exact True.intro
theorem AlOk.str {n : Nat} {z : Str} : AlOk n (.str z) := by cases n <;> exact True.intro
theorem AlOk.bl {n : Nat} {b : Bool} : AlOk n (.bool b) := by cases n <;> exact True.intro
theorem AlOk.non {n : Nat} : AlOk n .none := by cases n <;> exact True.intro
end WK
namespace WK
open PySem PySem.Spec PyProof.Rows L2
/-- data in a list or a tuple -/
def Dpl (K : PySem.W.Frag) (B : Hp) (v : V) (ds : List PyData) : Prop := Dp K B v (.list ds) ∨ Dp K B v (.tuple ds)
theorem Dpl.up {K : PySem.W.Frag} {B B' : Hp} {v : V} {ds : List PyData} (e : Ex B B') (h : Dpl K B v ds) : Dpl K B' v ds := h.elim (fun h => .inl (h.up e)) fun h => .inr (h.up e)
section
variable {α : Type} {F : Ent} {B H : Hp} {L : Led} {σ : L2.St} {K : PySem.W.Frag} {P : Program} {w : World} {tg : Expr} {as : List α} {enc : α → PyData} {v : V} {Q : VK}
theorem v_lenDW {ds : List PyData} (S : Ok F B L H) (h : Dpl K B v ds) (k : Q (.int ds.length) H) : CallU P w K (.builtin "len") [v] H Q := by
  rcases h with h | h
  · exact v_lenDL S h k
  · exact v_lenDT S h k
end
end WK
namespace WK
open PySem PySem.Spec PyProof.Rows L2
section
variable {P : Program} {w : World} {K : PySem.W.Frag} {H : Hp} {Q : VK} {v : V}
end
end WK
namespace WK
open PySem L2
end WK

/-! set(a list of ints and texts) -/
namespace WK
open PySem PySem.Spec PyProof.Rows L2
/-- the keys seen among the first i, and how many unlike ones -/
def seen (ks : Nat → Key) (i : Nat) (k : Key) : Bool := (List.range i).any fun j => decide (ks j = k)
def unlike (ks : Nat → Key) : Nat → Nat
  | 0 => 0
  | i + 1 => if seen ks i (ks i) = true then unlike ks i else unlike ks i + 1
theorem seen_succ (ks : Nat → Key) (i : Nat) (k : Key) : seen ks (i + 1) k = (seen ks i k || decide (k = ks i)) := by
  unfold seen
  rw [List.range_succ, List.any_append]
  simp only [List.any_cons, List.any_nil, Bool.or_false]
  congr 1
  by_cases h : ks i = k
  · rw [decide_eq_true h, decide_eq_true h.symm]
  · rw [decide_eq_false h, decide_eq_false fun z => h z.symm]
theorem unlike_le (ks : Nat → Key) : ∀ i, unlike ks i ≤ i
  | 0 => Nat.le_refl _
  | i + 1 => by
    have := unlike_le ks i
    unfold unlike
    split <;> omega
section
variable {prog : Program} {w : World} {A : Around} {R : Result → Shared → Prop} {I : Addr} {fp wr : List Addr} {G : Array GenState → Array GenState → Prop} {n : Nat} {P : Nat → Value → Prop} {St : Nat → Shared → Prop}
theorem set_fill (W : WalksS prog w A.in1 I fp wr G n P St) (D : Addr) (hD : D ∉ fp) (ks : Nat → Key) (hks : ∀ i v, P i v → RelV (kV (ks i)) v) (hb : n + 1 < scanBound) :
    ∀ (left i : Nat) (s : Shared), n - i = left → i ≤ n → St i s → s.heap.SetOf (mixKind prog w) D (seen ks i) (unlike ks i) →
      (∀ s', Moved (D :: wr) G s s' → s'.heap.SetOf (mixKind prog w) D (seen ks n) (unlike ks n) → R (.ok (.ret .none)) s') → codeAny (model prog w) A (.builtin "set.update.loop" ⟨[.ref D, .ref I], []⟩) R s := by
  have out : D ∉ wr := fun h => hD (W.sub _ h)
  have more : ∀ b ∈ wr, b ∈ D :: wr := fun b hb => List.mem_cons_of_mem _ hb
  have stays : ∀ {s s' : Shared} {S : Key → Bool} {c : Nat}, Moved wr G s s' → s.heap.SetOf (mixKind prog w) D S c → s'.heap.SetOf (mixKind prog w) D S c := fun hm hS => setOf_at hS fun o ho => hm.heap D o out ho
  intro left
  induction left with
  | zero =>
    intro i s hk hi hst hS fin
    obtain rfl : i = n := by omega
    refine codeAny_builtin PyProof.Rows.F.entry_set_update_loop ?_
    rw [Around.under_plainId PyProof.Rows.F.plain_set_update_loop _]
    show wpAny _ A.in1 (pyNext (.ref I) >>= _) _ _ s
    exact wpAny_bind (W.done s _ _ hst fun s' hm => wpAny_pure (fin s' (hm.mono more) (stays hm hS)))
  | succ left ih =>
    intro i s hk hi hst hS fin
    have hlt : i < n := by omega
    refine codeAny_builtin PyProof.Rows.F.entry_set_update_loop ?_
    rw [Around.under_plainId PyProof.Rows.F.plain_set_update_loop _]
    show wpAny _ A.in1 (pyNext (.ref I) >>= _) _ _ s
    refine wpAny_bind (W.item i s _ _ hlt hst fun v s1 hv hst1 hm => ?_)
    have rv := hks i v hv
    show wpAny _ A.in1 (holding [v] (setAdd D v) >>= _) _ _ s1
    refine wpAny_bind (wpAny_holding ?_)
    unfold setAdd
    refine wpAny_holding (wpAny_bind ((mixKind prog w).pyHash (k := ks i) (kV_is rv) ?_))
    have hS1 := stays hm hS
    have room : unlike ks i + 1 < scanBound := by have := unlike_le ks i; omega
    refine wpAny_setAddHashed_of (knd := mixKind prog w) (s := { s1 with toks := s1.toks + 1 }) (kV_is rv) (key_scan rv) hS1 room fun h' sb new => ?_
    have new1 : h'.SetOf (mixKind prog w) D (seen ks (i + 1)) (unlike ks (i + 1)) := by
      have e1 : (fun k => seen ks i k || decide (k = ks i)) = seen ks (i + 1) := funext fun k => (seen_succ ks i k).symm
      have e2 : unlike ks (i + 1) = if seen ks i (ks i) = true then unlike ks i else unlike ks i + 1 := rfl
      rw [e1] at new
      rw [e2]
      exact new
    refine wpAny_pure ⟨plainId_quiet PyProof.Rows.F.plain_set_update_loop _, ih (i + 1) _ (by omega) hlt (W.frame _ s1 _ _ hst1 (Nat.le_succ _) fun b hb o e => ?_) new1 fun s2 hm2 hS2 => ?_⟩
    · rw [sb.2 b fun z => hD (z ▸ hb)]
      exact e
    · refine fin s2 (Moved.trans W.gtrans ((hm.mono more).then_heap (Nat.le_succ _) fun b o hb e => ?_) hm2) hS2
      rw [sb.2 b fun z => hb (by rw [z]; exact List.mem_cons_self)]
      exact e
end
section
variable {prog : Program} {w : World} {A : Around} {E : Value → Shared → Prop} {s : Shared}
set_option maxHeartbeats 4000000 in
theorem set_init_of {M : Model} {A : Around} {E : Value → Shared → Prop} {s : Shared} {Q : Fin → Shared → Prop} {D l : Addr} {dict : Option Addr} {slots : Array (Option Value)} {od : Data} {led : Bool}
    (at0 : s.heap.get? D = some { cls := .type "set", dict := none, data := .set #[] 0 (.fresh 0 0 led) }) (hol : s.heap.get? l = some { cls := .type "list", dict := dict, data := od, slots := slots })
    (k : wpAny M A (pyIter (.ref l)) (fun a s' => wpAny M A (runValue (Code.builtin "set.update.loop" ⟨[.ref D, a], []⟩)) (fun _ s' => Q (.done (.ret .none)) s') E s') E s) :
    wpAny M A (Builtin.«set.__init__» ⟨[.ref D, .ref l], []⟩) Q E s := by
  have f8 := PySem.F.sub_list_set
  have f9 := PySem.F.sub_list_frozenset
  have ne : (Value.type "list" == Value.type "dict") = false := by decide
  unfold Builtin.«set.__init__» noKeywords Builtin.Frozenset.updateFrom
  generalize hPI : pyIter = PI at k
  wp_walk
  refine wpAny_mono k (fun a s' h => ?_) fun _ _ h => h
  exact wpAny_bind (wpAny_mono h (fun _ s2 h2 => wpAny_pure (wpAny_pure h2)) fun _ _ h => h)
set_option maxHeartbeats 4000000 in
theorem set_of_list {l : Addr} {items : Array Value} {ks : Nat → Key} {Q : Value → Shared → Prop} (hh : A.handled = none) (hl : s.heap.IsList l items) (hi : ∀ (i : Nat) (v : Value), items[i]? = some v → RelV (kV (ks i)) v) (hb : items.size + 1 < scanBound)
    (fin : ∀ (h' : Heap) (tk : Nat), h'.SetOf (mixKind prog w) s.heap.objs.size (seen ks items.size) (unlike ks items.size) → (∀ b o, b < s.heap.objs.size → s.heap.get? b = some o → h'.get? b = some o) → Q (.ref s.heap.objs.size) { s with heap := h', toks := tk }) :
    wpAny (model prog w) A (call (.type "set") [.ref l]) Q E s := by
  obtain ⟨c, tl, hmro⟩ := PySem.F.called_set.mro
  have f1 := PySem.F.called_set.made
  have f2 := PySem.F.called_set.sub
  refine wpAny_call (codeAny_of_tree ?_)
  show wpAny _ _ (callAny (.type "set") _) _ _ _
  refine wpAny_pure ⟨Code.quiet_builtin _ (by decide +kernel), codeAny_builtin PySem.F.entry_type_call ?_⟩
  rw [Around.under_plain (weight_type_call_type "set" [.ref l] []) rfl]
  have f3 := PySem.F.called_set.notType
  have f4 := PySem.F.called_set.canCreate
  have f5 := PySem.F.typeCall_set_1 (.ref l)
  repeat (any_goals (first | assumption | wp_step))
  refine codeAny_mono (code_set_new_1 (.ref l) (E := E) (Q₁ := fun obj s1 => ∃ led : Bool, obj = .ref s.heap.objs.size ∧ s1 = { s with heap := s.heap.push { cls := .type "set", dict := none, data := .set #[] 0 (.fresh 0 0 led) } }) fun led => ⟨led, rfl, rfl⟩) fun r s1 hr => ?_
  cases r with
  | error e => exact hr
  | ok fl =>
    cases fl with
    | ret obj =>
      obtain ⟨led, rfl, rfl⟩ := hr
      generalize hg : s.heap.push { cls := .type "set", dict := none, data := .set #[] 0 (.fresh 0 0 led) } = g
      have at0 : g.get? s.heap.objs.size = some { cls := .type "set", dict := none, data := .set #[] 0 (.fresh 0 0 led) } := by rw [← hg]; exact Heap.get?_push_size _ rfl
      have kept : ∀ {b : Addr} {o : Obj}, s.heap.get? b = some o → g.get? b = some o := fun e => by rw [← hg]; exact Heap.get?_push_of_some _ e
      have gsz : g.objs.size = s.heap.objs.size + 1 := by rw [← hg]; exact Heap.size_push ..
      have ty : Shared.TypeIs { s with heap := g } (.ref s.heap.objs.size) "set" := ⟨_, at0, rfl⟩
      have f6 := PySem.F.called_set.init.lookup
      have f7 := PySem.F.called_set.init.bind (.ref s.heap.objs.size)
      repeat (any_goals (first | assumption | wp_step))
      refine codeAny_mono (codeAny_call_builtin (R := wants (fun r s2 => r = .none ∧ ∃ h' tk, s2 = { s with heap := h', toks := tk } ∧ h'.SetOf (mixKind prog w) s.heap.objs.size (seen ks items.size) (unlike ks items.size) ∧
          (∀ b o, b < s.heap.objs.size → s.heap.get? b = some o → h'.get? b = some o)) E) PySem.F.called_set.init.plain PySem.F.entry_set_init (check_set_init_1 ty ?_)) fun r2 s2 hr2 => ?_
      · obtain ⟨ol, hol, hcl, nl, hdl⟩ := hl
        obtain ⟨ocls, odict, odata, oslots⟩ := ol
        simp only at hcl hdl
        subst hcl; subst hdl
        have hol1 := kept hol
        have hl1 : g.IsList l items := ⟨_, hol1, rfl, nl, rfl⟩
        refine set_init_of at0 hol1 (wpAny_pyIter_list hl1 (wpAny_runValue ?_))
        have lts : l < s.heap.objs.size := Heap.lt_size hol
        have hh3 : A.in1.in1.in1.handled = none := by simp [hh]
        have neI : l ≠ g.objs.size := by rw [gsz]; exact Nat.ne_of_lt (Nat.lt_succ_of_lt lts)
        have outs : s.heap.objs.size ∉ [g.objs.size, l] := by
          rw [gsz]
          simp only [List.mem_cons, List.not_mem_nil, or_false, not_or]
          exact ⟨Nat.ne_of_lt (Nat.lt_succ_self _), Nat.ne_of_gt lts⟩
        refine set_fill ((Walks.list hh3 _ l neI items).toS) s.heap.objs.size outs ks hi hb (items.size - 0) 0 _ (by omega) (Nat.zero_le _) ⟨⟨_, Heap.get?_push_size _ rfl, rfl, rfl⟩, (hl1.push _)⟩ ?start ?done
        case start =>
          have at1 : (g.push { cls := .type "list_iterator", data := .fields #[.ref l, .int 0 0] }).get? s.heap.objs.size = some { cls := .type "set", dict := none, data := .set #[] 0 (.fresh 0 0 led) } := Heap.get?_push_of_some _ at0
          exact ⟨_, #[], 0, _, at1, ⟨rfl, rfl, rfl⟩, rfl, fun e he => by simp at he, fun k => ⟨fun z => by simp [seen] at z, fun ⟨e, he, _⟩ => by simp at he⟩, by decide, by rfl, rfl⟩
        case done =>
          intro s' hm hS
          obtain ⟨h', g', d', tk', os'⟩ := s'
          obtain rfl : g' = s.gens := hm.gens
          obtain rfl : d' = s.drawn := hm.drawn
          obtain rfl : os' = s.os := hm.os
          refine ⟨rfl, h', tk', rfl, hS, fun b o hb e => ?_⟩
          refine hm.heap b o ?_ (Heap.get?_push_of_some _ (kept e))
          simp only [List.mem_cons, List.not_mem_nil, or_false, not_or]
          exact ⟨Nat.ne_of_lt hb, by rw [gsz]; exact Nat.ne_of_lt (Nat.lt_succ_of_lt hb)⟩
      · cases r2 with
        | error e => exact hr2
        | ok fl2 =>
          cases fl2 with
          | ret r =>
            obtain ⟨rfl, h', tk, rfl, hS', hk'⟩ := hr2
            repeat (any_goals (first | assumption | wp_step))
            exact fin _ _ hS' hk'
          | _ => exact hr2.elim
    | _ => exact hr.elim
end
section
variable {P : Program} {w : World} {K : PySem.W.Frag} {H B : Hp} {Q : VK} {F : Ent} {L : Led} {a : Addr}
/-- set(xs), xs a list of ints and texts -/
theorem v_setOf {xs : List Key} (S : Ok F B L H) (h : SqL K H a (xs.map kV)) (hz : xs.length < 4000)
    (k : ∀ p H', Ok F B ((p, SetK P w p (seen (fun i => xs.getD i (.inl 0)) xs.length) (unlike (fun i => xs.getD i (.inl 0)) xs.length)) :: L) H' → Q (.ref p) H') : CallU P w K (.type "set") [.ref a] H Q := by
  intro X pins s σ us al I r
  obtain ⟨rfl, rfl, rfl, hc, hu⟩ := al
  obtain ⟨u, rfl, ru⟩ := vals1 r
  obtain rfl : u = Value.ref a := ru
  obtain ⟨its, rv, pl, _⟩ := I.list h
  have hlen : its.toArray.size = xs.length := by rw [List.size_toArray, ← rv.length, List.length_map]
  refine set_of_list (I.ok.hd hc) pl.isList (ks := fun i => xs.getD i (.inl 0)) (fun i v e => ?_) (by rw [hlen]; unfold scanBound; omega) fun h' tk new kp => ?_
  · have e' : its[i]? = some v := by simpa using e
    have hi : i < xs.length := by
      have := (List.getElem?_eq_some_iff.mp e').1
      have := rv.length
      rw [List.length_map] at this
      omega
    obtain ⟨v', hv', r'⟩ := rv.get (i := i) (x := kV (xs[i])) (by rw [List.getElem?_map, List.getElem?_eq_getElem hi]; rfl)
    rw [e'] at hv'
    cases hv'
    show RelV (kV (xs.getD i (.inl 0))) v
    rw [List.getD_eq_getElem?_getD, List.getElem?_eq_getElem hi]
    exact r'
  · rw [hlen] at new
    have hn : H s.heap.objs.size = none := I.hok.fresh (Nat.le_refl _)
    refine ⟨.ref s.heap.objs.size, upd H s.heap.objs.size (SetK X.prog X.w s.heap.objs.size _ _), I.laid (a := s.heap.objs.size) (o := SetK X.prog X.w s.heap.objs.size _ _) (h' := h') (t' := tk) (fun b o e => kp b o (Heap.lt_size e) e) (Nat.le_refl _) (setK_new new), rfl, k _ _ (S.newL hn)⟩
theorem v_lenSet {p : Addr} {T : Key → Bool} {n : Nat} (h : H p = some (SetK P w p T n)) (hz : n < 2 ^ 62) (k : Q (.int n) H) : CallU P w K (.builtin "len") [.ref p] H Q := by
  intro X pins s σ us al I r
  obtain ⟨rfl, rfl, rfl, hc, hu⟩ := al
  obtain ⟨u, rfl, ru⟩ := vals1 r
  obtain rfl : u = Value.ref p := ru
  obtain ⟨o, es, ep, t, ho, hex, hd, _, _, _, hf, hn⟩ := setK_get I h
  exact call_len_set ho hex hd hf (by rw [hn]; omega) ⟨.int n, H, I.tok _, ⟨_, by rw [hn]⟩, k⟩
end
/-- all unlike: as many as there are -/
theorem unlike_nodup {xs : List Key} (h : xs.Nodup) : ∀ i, i ≤ xs.length → unlike (fun i => xs.getD i (.inl 0)) i = i
  | 0, _ => rfl
  | i + 1, hi => by
    have ih := unlike_nodup h i (by omega)
    have no : seen (fun i => xs.getD i (.inl 0)) i (xs.getD i (.inl 0)) = false := by
      unfold seen
      rw [List.any_eq_false]
      intro j hj
      rw [List.mem_range] at hj
      simp only [decide_eq_true_eq]
      have hj' : j < xs.length := by omega
      have hi' : i < xs.length := by omega
      rw [List.getD_eq_getElem?_getD, List.getD_eq_getElem?_getD, List.getElem?_eq_getElem hj', List.getElem?_eq_getElem hi']
      exact (List.pairwise_iff_getElem.mp h) j i hj' hi' hj
    show (if seen _ i _ = true then _ else _) = _
    rw [no, if_neg Bool.false_ne_true, ih]
end WK
namespace WK
open PySem PySem.Spec PyProof.Rows L2
section
variable {P : Program} {w : World} {F : Ent} {B H : Hp} {L : Led} {K : PySem.W.Frag} {Q : VK} {v : V}
theorem v_setOfD {ss : List Str} (S : Ok F B L H) (h : Dp K B v (.list (ss.map PyData.str))) (hz : ss.length < 4000)
    (k : ∀ p H', Ok F B ((p, SetK P w p (seen (fun i => (ss.map fun s => (Sum.inr s : Key)).getD i (.inl 0)) ss.length) (unlike (fun i => (ss.map fun s => (Sum.inr s : Key)).getD i (.inl 0)) ss.length)) :: L) H' → Q (.ref p) H') : CallU P w K (.type "set") [v] H Q := by
  obtain ⟨a, xs, rfl, hq, ha⟩ := Dp.lst_inv h
  rw [ha.strs] at hq
  have e : ss.map V.str = (ss.map fun s => (Sum.inr s : Key)).map kV := by rw [List.map_map]; rfl
  rw [e] at hq
  have := v_setOf (P := P) (w := w) (Q := Q) S (S.sqB hq) (by rw [List.length_map]; exact hz)
  rw [List.length_map] at this
  exact this k
theorem nodup_inr {ss : List Str} (h : ss.Nodup) : (ss.map fun s => (Sum.inr s : Key)).Nodup := by
  rw [List.nodup_iff_pairwise_ne] at h ⊢
  rw [List.pairwise_map]
  exact h.imp fun hab e => hab (Sum.inr.inj e)
/-- len(set(texts)), texts unlike one another -/
theorem unlike_strs {ss : List Str} (h : ss.Nodup) : unlike (fun i => (ss.map fun s => (Sum.inr s : Key)).getD i (.inl 0)) ss.length = ss.length := by
  have := unlike_nodup (nodup_inr h) ss.length (by rw [List.length_map]; exact Nat.le_refl _)
  exact this
end
end WK

/-! a book of parts as data -/
namespace PM
open PySem L2
abbrev letters : Str := "abcdefghijklmnopqrstuvwxyz"
def isNameM (z : Str) : Bool := decide (1 ≤ (z.length : Int)) && (decide ((z.length : Int) ≤ 8) && (z.cps.toList.map fun c => decide (c ∈ letters.cps.toList)).all id)
structure PRow where
  name : Str
  needs : List (Str × Int)
  steps : List (Int × Int)
  lot : Int
  lead : Int
abbrev encNeed (x : Str × Int) : PyData := .tuple [.str x.1, .int x.2]
abbrev encStep (x : Int × Int) : PyData := .tuple [.int x.1, .int x.2]
abbrev encRow (r : PRow) : PyData := .tuple [.str r.name, .tuple (r.needs.map encNeed), .tuple (r.steps.map encStep), .int r.lot, .int r.lead]
abbrev encRest (r : PRow) : PyData := .tuple [.tuple (r.needs.map encNeed), .tuple (r.steps.map encStep), .int r.lot, .int r.lead]
/-- a row that may stand behind the names -/
structure GoodRow (names : List Str) (r : PRow) : Prop where
  nm : isNameM r.name = true
  new : r.name ∉ names
  lot : 1 ≤ r.lot ∧ r.lot ≤ 99
  lead : 0 ≤ r.lead ∧ r.lead ≤ 30
  nd : (r.needs.map (·.1)).Nodup
  known : ∀ x ∈ r.needs, x.1 ∈ names
  many : ∀ x ∈ r.needs, 1 ≤ x.2 ∧ x.2 ≤ 9
  few : r.steps.length ≤ 5
  steps : ∀ x ∈ r.steps, (0 ≤ x.1 ∧ x.1 < 6) ∧ 1 ≤ x.2 ∧ x.2 ≤ 99

theorem nodup_sub_length {α : Type} [DecidableEq α] {l l' : List α} (h : l.Nodup) (hs : ∀ x ∈ l, x ∈ l') : l.length ≤ l'.length := by
  induction l generalizing l' with
  | nil => exact Nat.zero_le _
  | cons a l ih =>
    have hn := List.nodup_cons.mp h
    have ha := hs a (List.mem_cons_self ..)
    have := ih hn.2 (l' := l'.erase a) fun x hx => (List.mem_erase_of_ne (fun e : x = a => hn.1 (by rw [← e]; exact hx))).mpr (hs x (List.mem_cons_of_mem _ hx))
    rw [List.length_erase_of_mem ha] at this
    have : 0 < l'.length := List.length_pos_of_mem ha
    simp only [List.length_cons]
    omega
/-! dicts with texts as keys -/
def getA {α : Type} (l : List (Str × α)) (s : Str) : Option α := (l.find? fun p => decide (p.1 = s)).map (·.2)
def putA {α : Type} (l : List (Str × α)) (s : Str) (v : α) : List (Str × α) := if (l.any fun p => decide (p.1 = s)) = true then l.map (fun p => if p.1 = s then (p.1, v) else p) else l ++ [(s, v)]
abbrev kvI (l : List (Str × Int)) : List (Key × V) := l.map fun p => (.inr p.1, .int p.2)
theorem valV_kvI (l : List (Str × Int)) (s : Str) : valV (kvI l) (.inr s) = (getA l s).map V.int := by
  unfold valV getA kvI
  induction l with
  | nil => rfl
  | cons p l ih =>
    rw [List.map_cons, List.find?_cons, List.find?_cons]
    by_cases h : p.1 = s
    · subst h
      simp
    · have h1 : decide (p.1 = s) = false := decide_eq_false h
      have h2 : decide ((Sum.inr p.1 : Key) = .inr s) = false := decide_eq_false fun z => h (Sum.inr.inj z)
      simp only [h1, h2]
      exact ih
theorem any_kvI (l : List (Str × Int)) (s : Str) : ((kvI l).any fun kv => decide (kv.1 = .inr s)) = (l.any fun p => decide (p.1 = s)) := by
  unfold kvI
  rw [List.any_map]
  congr 1
  funext p
  by_cases h : p.1 = s
  · subst h; simp
  · show decide ((Sum.inr p.1 : Key) = .inr s) = decide (p.1 = s)
    rw [decide_eq_false h, decide_eq_false fun z => h (Sum.inr.inj z)]
theorem putK_kvI (l : List (Str × Int)) (s : Str) (i : Int) : putK (kvI l) (.inr s) (.int i) = kvI (putA l s i) := by
  unfold putK putA
  rw [any_kvI]
  split
  · unfold kvI
    rw [List.map_map, List.map_map]
    refine List.map_congr_left fun p _ => ?_
    show (if (Sum.inr p.1 : Key) = .inr s then _ else _) = _
    by_cases h : p.1 = s
    · subst h; simp
    · rw [if_neg fun z => h (Sum.inr.inj z)]
      show _ = (Sum.inr (if p.1 = s then (p.1, i) else p).1, V.int (if p.1 = s then (p.1, i) else p).2)
      rw [if_neg h]
  · unfold kvI
    rw [List.map_append]
    rfl
theorem getA_isSome {α : Type} (l : List (Str × α)) (s : Str) : (getA l s).isSome = true ↔ s ∈ l.map (·.1) := by
  unfold getA
  rw [Option.isSome_map, List.find?_isSome]
  simp only [decide_eq_true_eq, List.mem_map]
theorem putA_keys {α : Type} (l : List (Str × α)) (s : Str) (v : α) (h : s ∈ l.map (·.1)) : (putA l s v).map (·.1) = l.map (·.1) := by
  unfold putA
  rw [if_pos]
  · rw [List.map_map]
    refine List.map_congr_left fun p _ => ?_
    show (if p.1 = s then (p.1, v) else p).1 = p.1
    split <;> rfl
  · rw [List.any_eq_true]
    obtain ⟨p, hp, e⟩ := List.mem_map.mp h
    exact ⟨p, hp, decide_eq_true e⟩
theorem putA_new {α : Type} (l : List (Str × α)) (s : Str) (v : α) (h : s ∉ l.map (·.1)) : putA l s v = l ++ [(s, v)] := by
  unfold putA
  rw [if_neg]
  intro z
  rw [List.any_eq_true] at z
  obtain ⟨p, hp, e⟩ := z
  exact h (List.mem_map.mpr ⟨p, hp, of_decide_eq_true e⟩)
def addA (l : List (Str × Int)) (s : Str) (i : Int) : List (Str × Int) := putA l s ((getA l s).getD 0 + i)
/-- what some needs lead to, by what those ahead lead to -/
def addAll (m : Int) (f : List (Str × Int)) (more : List (Str × Int)) : List (Str × Int) := more.foldl (fun f p => addA f p.1 (m * p.2)) f
def needStep (ls : List (Str × List (Str × Int))) (f : List (Str × Int)) (p : Str × Int) : List (Str × Int) := addAll p.2 (addA f p.1 p.2) ((getA ls p.1).getD [])
def ledRaw (names : List Str) (ls : List (Str × List (Str × Int))) (needs : List (Str × Int)) : List (Str × Int) := needs.foldl (needStep ls) (names.map fun s => (s, 0))
def ledTo (names : List Str) (ls : List (Str × List (Str × Int))) (needs : List (Str × Int)) : List (Str × Int) := (ledRaw names ls needs).filter fun p => decide (0 < p.2)
/-- what each part of a book leads to -/
def ledStep (ls : List (Str × List (Str × Int))) (r : PRow) : List (Str × List (Str × Int)) := ls ++ [(r.name, ledTo (ls.map (·.1) ++ [r.name]) ls r.needs)]
def ledOf (rs : List PRow) : List (Str × List (Str × Int)) := rs.foldl ledStep []
theorem ledOf_snoc (rs : List PRow) (r : PRow) : ledOf (rs ++ [r]) = ledStep (ledOf rs) r := by
  unfold ledOf
  rw [List.foldl_append]
  rfl
theorem ledOf_names (rs : List PRow) : (ledOf rs).map (·.1) = rs.map (·.name) := by
  suffices h : ∀ (rs : List PRow) (ls : List (Str × List (Str × Int))), (rs.foldl ledStep ls).map (·.1) = ls.map (·.1) ++ rs.map (·.name) from h rs []
  intro rs
  induction rs with
  | nil => intro ls; simp
  | cons r rs ih =>
    intro ls
    rw [List.foldl_cons, ih]
    simp [ledStep]
/-- a book that can be -/
structure GoodBook (rs : List PRow) : Prop where
  len : rs.length ≤ 12
  row : ∀ i r, rs[i]? = some r → GoodRow ((rs.take i).map (·.name)) r
  led : ∀ p ∈ ledOf rs, (p.2.map (·.2)).sum ≤ 200
end PM

/-! books of parts in the heap -/
namespace PM
open PySem PySem.Spec PyProof.Rows L2 WK
section
variable {K : PySem.W.Frag} {σ : L2.St} {H B : Hp} {F : Ent} {L : Led} {gs : TGs} {v : V} {QG : L2.St → Hp → Prop}
theorem r_gtupRow {r : PRow} (S : Ok F B L H) (h : Dp K B v (encRow r)) (k : ∀ v2 v3, Dp K B v2 (.tuple (r.needs.map encNeed)) → Dp K B v3 (.tuple (r.steps.map encStep)) → gs [.str r.name, v2, v3, .int r.lot, .int r.lead] σ H QG) : gTup K 5 gs v σ H QG :=
  r_gtupD S h rfl fun vs ha => by
    obtain ⟨v1, _, rfl, h1, ha⟩ := ha.cons_inv
    obtain ⟨v2, _, rfl, h2, ha⟩ := ha.cons_inv
    obtain ⟨v3, _, rfl, h3, ha⟩ := ha.cons_inv
    obtain ⟨v4, _, rfl, h4, ha⟩ := ha.cons_inv
    obtain ⟨v5, _, rfl, h5, ha⟩ := ha.cons_inv
    obtain rfl := ha.nil_inv
    obtain rfl := h1.str_inv
    obtain rfl := h4.int_inv
    obtain rfl := h5.int_inv
    exact k v2 v3 h2 h3
end
/-- what the parts lead to: frozen dicts -/
inductive LedKV (B : Hp) : List (Key × V) → List (Str × List (Str × Int)) → Prop
  | nil : LedKV B [] []
  | cons {s d od m kvs ls} : B d = some (.frz od (.dK (kvI m))) → LedKV B kvs ls → LedKV B ((.inr s, .ref d) :: kvs) ((s, m) :: ls)
inductive RowKV (K : PySem.W.Frag) (B : Hp) : List (Key × V) → List PRow → Prop
  | nil : RowKV K B [] []
  | cons {v r kvs rs} : Dp K B v (encRest r) → RowKV K B kvs rs → RowKV K B ((.inr r.name, v) :: kvs) (r :: rs)
section
variable {K : PySem.W.Frag} {B B' : Hp} {kvs : List (Key × V)} {ls : List (Str × List (Str × Int))} {rs : List PRow}
theorem LedKV.up (e : Ex B B') (h : LedKV B kvs ls) : LedKV B' kvs ls := by
  induction h with
  | nil => exact .nil
  | cons h _ ih => exact .cons (e _ _ h) ih
theorem RowKV.up (e : Ex B B') (h : RowKV K B kvs rs) : RowKV K B' kvs rs := by
  induction h with
  | nil => exact .nil
  | cons h _ ih => exact .cons (h.up e) ih
theorem LedKV.keys (h : LedKV B kvs ls) : kvs.map (·.1) = ls.map fun p => .inr p.1 := by
  induction h with
  | nil => rfl
  | cons _ _ ih => simp [ih]
theorem RowKV.keys (h : RowKV K B kvs rs) : kvs.map (·.1) = (rs.map (·.name)).map Sum.inr := by
  induction h with
  | nil => rfl
  | cons _ _ ih => simp only [List.map_cons, ih]
theorem LedKV.snoc {s : Str} {d : Addr} {od : Obj} {m : List (Str × Int)} (h : LedKV B kvs ls) (hd : B d = some (.frz od (.dK (kvI m)))) : LedKV B (kvs ++ [(.inr s, .ref d)]) (ls ++ [(s, m)]) := by
  induction h with
  | nil => exact .cons hd .nil
  | cons h _ ih => exact .cons h ih
theorem RowKV.snoc {v : V} {r : PRow} (h : RowKV K B kvs rs) (hv : Dp K B v (encRest r)) : RowKV K B (kvs ++ [(.inr r.name, v)]) (rs ++ [r]) := by
  induction h with
  | nil => exact .cons hv .nil
  | cons h _ ih => exact .cons h ih
theorem LedKV.get {s : Str} {m : List (Str × Int)} (h : LedKV B kvs ls) (e : getA ls s = some m) : ∃ d od, valV kvs (.inr s) = some (.ref d) ∧ B d = some (.frz od (.dK (kvI m))) := by
  induction h with
  | nil => cases e
  | @cons s' d od m' kvs ls hd _ ih =>
    by_cases hs : s' = s
    · subst hs
      have : m' = m := by
        unfold getA at e
        rw [List.find?_cons] at e
        simpa using e
      subst this
      exact ⟨d, od, valV_pos rfl, hd⟩
    · have : getA ls s = some m := by
        unfold getA at e ⊢
        rw [List.find?_cons, show decide ((s', m').1 = s) = false from decide_eq_false hs] at e
        exact e
      obtain ⟨d, od, e1, e2⟩ := ih this
      exact ⟨d, od, by rw [valV_neg (fun z => hs (Sum.inr.inj z))]; exact e1, e2⟩
end
/-! the sums keep their keys -/
theorem addA_keys {f : List (Str × Int)} {s : Str} {i : Int} (h : s ∈ f.map (·.1)) : (addA f s i).map (·.1) = f.map (·.1) := putA_keys f s _ h
theorem addAll_keys {m : Int} {f more : List (Str × Int)} (h : ∀ y ∈ more, y.1 ∈ f.map (·.1)) : (addAll m f more).map (·.1) = f.map (·.1) := by
  unfold addAll
  induction more generalizing f with
  | nil => rfl
  | cons y more ih =>
    rw [List.foldl_cons, ih (f := addA f y.1 (m * y.2))]
    · exact addA_keys (h y (List.mem_cons_self ..))
    · intro z hz
      rw [addA_keys (h y (List.mem_cons_self ..))]
      exact h z (List.mem_cons_of_mem _ hz)
theorem getA_of_mem {α : Type} {l : List (Str × α)} {s : Str} (h : s ∈ l.map (·.1)) : ∃ v, getA l s = some v := Option.isSome_iff_exists.mp ((getA_isSome l s).mpr h)
theorem needStep_keys {ls : List (Str × List (Str × Int))} {f : List (Str × Int)} {p : Str × Int} (h : p.1 ∈ f.map (·.1)) (hm : ∀ m, getA ls p.1 = some m → ∀ y ∈ m, y.1 ∈ f.map (·.1)) : (needStep ls f p).map (·.1) = f.map (·.1) := by
  unfold needStep
  rw [addAll_keys, addA_keys h]
  intro y hy
  rw [addA_keys h]
  cases e : getA ls p.1 with
  | none => rw [e] at hy; cases hy
  | some m => rw [e] at hy; exact hm m e y hy
theorem needs_keys {ls : List (Str × List (Str × Int))} {f : List (Str × Int)} {ps : List (Str × Int)} (h : ∀ p ∈ ps, p.1 ∈ f.map (·.1)) (hm : ∀ p ∈ ps, ∀ m, getA ls p.1 = some m → ∀ y ∈ m, y.1 ∈ f.map (·.1)) : (ps.foldl (needStep ls) f).map (·.1) = f.map (·.1) := by
  induction ps generalizing f with
  | nil => rfl
  | cons p ps ih =>
    have h1 := needStep_keys (h p (List.mem_cons_self ..)) (hm p (List.mem_cons_self ..))
    rw [List.foldl_cons, ih, h1]
    · intro q hq; rw [h1]; exact h q (List.mem_cons_of_mem _ hq)
    · intro q hq m e y hy; rw [h1]; exact hm q (List.mem_cons_of_mem _ hq) m e y hy
theorem kvI_get {m : List (Str × Int)} {j : Nat} {kv : Key × V} (h : (kvI m)[j]? = some kv) : ∃ y, m[j]? = some y ∧ kv = (.inr y.1, .int y.2) := by
  unfold kvI at h
  rw [List.getElem?_map] at h
  cases e : m[j]? with
  | none => rw [e] at h; cases h
  | some y => rw [e] at h; exact ⟨y, rfl, (Option.some.inj h).symm⟩
theorem foldl_take_succ {α β : Type} {g : β → α → β} {b : β} {l : List α} {i : Nat} {x : α} (h : l[i]? = some x) : (l.take (i + 1)).foldl g b = g ((l.take i).foldl g b) x := by
  rw [List.take_add_one, h, List.foldl_append]; rfl
theorem kvI_keys (m : List (Str × Int)) : (kvI m).map (·.1) = (m.map (·.1)).map Sum.inr := by
  unfold kvI
  rw [List.map_map, List.map_map]; rfl
/-- a dict's row by its number -/
def vInt (c : Int → Bool) (kv : Key × V) : Bool := match kv.2 with | .int i => c i | _ => false
theorem kvI_filter (m : List (Str × Int)) (c : Int → Bool) : (kvI m).filter (vInt c) = kvI (m.filter fun p => c p.2) := by
  unfold kvI
  rw [List.filter_map]; rfl
abbrev fldsP (r l : Addr) : List (Str × V) := [("rows", .ref r), ("led", .ref l)]
theorem getA_mem {α : Type} {l : List (Str × α)} {s : Str} {v : α} (h : getA l s = some v) : (s, v) ∈ l := by
  unfold getA at h
  obtain ⟨p, hp, e⟩ := Option.map_eq_some_iff.mp h
  have h1 := List.mem_of_find?_eq_some hp
  have h2 := List.find?_some hp
  have : p.1 = s := of_decide_eq_true h2
  rw [← this, ← e]
  exact h1
theorem ledOf_take {rs : List PRow} {i : Nat} {r : PRow} (h : rs[i]? = some r) : ledOf (rs.take (i + 1)) = ledStep (ledOf (rs.take i)) r := foldl_take_succ h
theorem ledRaw_keys {names : List Str} {ls : List (Str × List (Str × Int))} {needs : List (Str × Int)} (h : ∀ x ∈ needs, x.1 ∈ names ∧ ∀ m, getA ls x.1 = some m → ∀ y ∈ m, y.1 ∈ names) : (ledRaw names ls needs).map (·.1) = names := by
  have e0 : (names.map fun s => ((s, 0) : Str × Int)).map (·.1) = names := by rw [List.map_map]; exact List.map_id' _
  unfold ledRaw
  rw [needs_keys, e0]
  · intro y hy; rw [e0]; exact (h y hy).1
  · intro y hy m em z hz; rw [e0]; exact (h y hy).2 m em z hz
theorem ledTo_in {names : List Str} {ls : List (Str × List (Str × Int))} {needs : List (Str × Int)} (h : ∀ x ∈ needs, x.1 ∈ names ∧ ∀ m, getA ls x.1 = some m → ∀ y ∈ m, y.1 ∈ names) : ∀ y ∈ ledTo names ls needs, y.1 ∈ names := by
  intro y hy
  rw [← ledRaw_keys h]
  exact List.mem_map.mpr ⟨y, (List.mem_filter.mp hy).1, rfl⟩
section
variable {rs : List PRow}
theorem take_succ_map {i : Nat} {r : PRow} (h : rs[i]? = some r) : (rs.take (i + 1)).map (·.name) = (rs.take i).map (·.name) ++ [r.name] := by
  rw [List.take_add_one, h, List.map_append]; rfl
theorem GoodBook.nodup (G : GoodBook rs) (i : Nat) : ((rs.take i).map (·.name)).Nodup := by
  induction i with
  | zero => exact List.nodup_nil
  | succ i ih =>
    cases e : rs[i]? with
    | none =>
      have : rs.length ≤ i := List.getElem?_eq_none_iff.mp e
      rw [List.take_of_length_le (by omega)]
      rw [List.take_of_length_le this] at ih
      exact ih
    | some r =>
      rw [take_succ_map e]
      refine List.nodup_append.mpr ⟨ih, List.nodup_cons.mpr ⟨(by simp), List.nodup_nil⟩, ?_⟩
      intro a ha b hb hab
      rw [List.mem_singleton] at hb
      subst hb hab
      exact (G.row i r e).new ha
theorem GoodBook.known (G : GoodBook rs) (i : Nat) : ∀ p ∈ ledOf (rs.take i), ∀ y ∈ p.2, y.1 ∈ (rs.take i).map (·.name) := by
  induction i with
  | zero => intro p hp; cases hp
  | succ i ih =>
    cases e : rs[i]? with
    | none =>
      have : rs.length ≤ i := List.getElem?_eq_none_iff.mp e
      rw [List.take_of_length_le (show rs.length ≤ i + 1 by omega)]
      rw [List.take_of_length_le this] at ih
      exact ih
    | some r =>
      rw [take_succ_map e, ledOf_take e]
      intro p hp y hy
      rcases List.mem_append.mp hp with hp | hp
      · exact List.mem_append_left _ (ih p hp y hy)
      · rw [List.mem_singleton] at hp
        subst hp
        rw [← ledOf_names]
        refine ledTo_in (fun x hx => ⟨?_, fun m hm z hz => ?_⟩) y hy
        · rw [ledOf_names]; exact List.mem_append_left _ ((G.row i r e).known x hx)
        · rw [ledOf_names]; exact List.mem_append_left _ (ih _ (getA_mem hm) z hz)
theorem GoodBook.needs (G : GoodBook rs) {i : Nat} {r : PRow} (e : rs[i]? = some r) : ∀ x ∈ r.needs, x.1 ∈ (rs.take i).map (·.name) ++ [r.name] ∧ (1 ≤ x.2 ∧ x.2 ≤ 9) ∧ ∃ m, getA (ledOf (rs.take i)) x.1 = some m ∧ ∀ y ∈ m, y.1 ∈ (rs.take i).map (·.name) ++ [r.name] := by
  intro x hx
  have R := G.row i r e
  obtain ⟨m, hm⟩ := getA_of_mem (l := ledOf (rs.take i)) (s := x.1) (by rw [ledOf_names]; exact R.known x hx)
  exact ⟨List.mem_append_left _ (R.known x hx), R.many x hx, m, hm, fun y hy => List.mem_append_left _ (G.known i _ (getA_mem hm) y hy)⟩
theorem ledOf_sub (i : Nat) : ∀ p ∈ ledOf (rs.take i), p ∈ ledOf rs := by
  suffices h : ∀ (xs : List PRow) (ls : List (Str × List (Str × Int))), ∀ p ∈ ls, p ∈ xs.foldl ledStep ls by
    intro p hp
    have := h (rs.drop i) (ledOf (rs.take i)) p hp
    unfold ledOf at this ⊢
    rw [← List.foldl_append, List.take_append_drop] at this
    exact this
  intro xs
  induction xs with
  | nil => intro ls p hp; exact hp
  | cons r xs ih => intro ls p hp; exact ih _ p (List.mem_append_left _ hp)
end
theorem kvI_vals (m : List (Str × Int)) : (kvI m).map (·.2) = (m.map (·.2)).map V.int := by
  unfold kvI
  rw [List.map_map, List.map_map]; rfl
theorem zipIdx_at {α : Type} {l : List α} {i : Nat} {y : α × Nat} (h : l.zipIdx[i]? = some y) : l[i]? = some y.1 ∧ y.2 = i := by
  rw [List.getElem?_zipIdx] at h
  cases e : l[i]? with
  | none => rw [e] at h; cases h
  | some x =>
    rw [e] at h
    have := Option.some.inj h
    subst this
    exact ⟨rfl, by simp⟩
theorem ledTo_sub {names : List Str} {ls : List (Str × List (Str × Int))} {needs : List (Str × Int)} (h : ∀ x ∈ needs, x.1 ∈ names ∧ ∀ m, getA ls x.1 = some m → ∀ y ∈ m, y.1 ∈ names) : ((ledTo names ls needs).map (·.1)).Sublist names := by
  have h1 : ((ledTo names ls needs).map (·.1)).Sublist ((ledRaw names ls needs).map (·.1)) := List.filter_sublist.map _
  rw [ledRaw_keys h] at h1
  exact h1
theorem GoodBook.led_sub {rs : List PRow} (G : GoodBook rs) (i : Nat) : ∀ p ∈ ledOf (rs.take i), (p.2.map (·.1)).Sublist ((rs.take i).map (·.name)) := by
  induction i with
  | zero => intro p hp; cases hp
  | succ i ih =>
    cases e : rs[i]? with
    | none =>
      have : rs.length ≤ i := List.getElem?_eq_none_iff.mp e
      rw [List.take_of_length_le (show rs.length ≤ i + 1 by omega)]
      rw [List.take_of_length_le this] at ih
      exact ih
    | some r =>
      rw [take_succ_map e, ledOf_take e]
      intro p hp
      rcases List.mem_append.mp hp with hp | hp
      · exact (ih p hp).trans (List.sublist_append_left _ _)
      · rw [List.mem_singleton] at hp
        subst hp
        have := ledTo_sub (names := (ledOf (rs.take i)).map (·.1) ++ [r.name]) (ls := ledOf (rs.take i)) (needs := r.needs) (fun x hx => ⟨by rw [ledOf_names]; exact List.mem_append_left _ ((G.row i r e).known x hx), fun m hm z hz => by rw [ledOf_names]; exact List.mem_append_left _ (G.known i _ (getA_mem hm) z hz)⟩)
        rw [ledOf_names] at this
        rw [ledOf_names]
        exact this
theorem GoodBook.led_all {rs : List PRow} (G : GoodBook rs) : ∀ p ∈ ledOf rs, (p.2.map (·.1)).Sublist (rs.map (·.name)) := by
  have := G.led_sub rs.length
  rw [List.take_length] at this
  exact this
end PM

/-! a floor, plainly -/
namespace PM
open PySem L2 WK
inductive Hold where
  | lot (j : Nat) (m : Int)
  | pc (k : Nat)
  deriving DecidableEq
structure Lt where
  part : Str
  left : Int
  price : Int
structure Pc where
  part : Str
  state : Str
  at_ : Int
  cost : Int
  holds : List Hold
  above : Option Nat
  client : Option Int
  own : Int
inductive Deed where
  | buy (p : Str) (m pr : Int)
  | begin_ (p : Str)
  | work (k : Int)
  | test (k : Int) (g : Bool)
  | rework (k a : Int)
  | swap (k o n : Int)
  | scrap (k : Int)
  | strip (k : Int)
  | sell (k c : Int)
  | back (k : Int)
def encDeed : Deed → PyData
  | .buy p m pr => .tuple [.str "buy", .str p, .int m, .int pr]
  | .begin_ p => .tuple [.str "begin", .str p]
  | .work k => .tuple [.str "work", .int k]
  | .test k g => .tuple [.str "test", .int k, .bool g]
  | .rework k a => .tuple [.str "rework", .int k, .int a]
  | .swap k o n => .tuple [.str "swap", .int k, .int o, .int n]
  | .scrap k => .tuple [.str "scrap", .int k]
  | .strip k => .tuple [.str "strip", .int k]
  | .sell k c => .tuple [.str "sell", .int k, .int c]
  | .back k => .tuple [.str "back", .int k]
structure Fl where
  rs : List PRow
  rates : List Int
  lots : List Lt
  pcs : List Pc
  book : List Deed
  spent : Int
  lost : Int
abbrev sMaking : Str := "making"
abbrev sMade : Str := "made"
abbrev sBad : Str := "bad"
abbrev sStock : Str := "stock"
abbrev sWithin : Str := "within"
abbrev sSold : Str := "sold"
abbrev sScrap : Str := "scrap"
abbrev sStripped : Str := "stripped"
/-- a part's row -/
def rowOf (rs : List PRow) (z : Str) : Option PRow := rs.find? fun r => decide (r.name = z)
def lotsOf (hs : List Hold) : List (Nat × Int) := hs.filterMap fun h => match h with | .lot j m => some (j, m) | .pc _ => none
def pcsOf (hs : List Hold) : List Nat := hs.filterMap fun h => match h with | .lot _ _ => none | .pc k => some k
theorem lotsOf_app (a b : List Hold) : lotsOf (a ++ b) = lotsOf a ++ lotsOf b := List.filterMap_append
theorem pcsOf_app (a b : List Hold) : pcsOf (a ++ b) = pcsOf a ++ pcsOf b := List.filterMap_append
/-- a floor at its beginning -/
def Fl.new (rs : List PRow) (rates : List Int) : Fl := ⟨rs, rates, [], [], [], 0, 0⟩
def Fl.buy (fs : Fl) (z : Str) (m pr : Int) : Fl := { fs with lots := fs.lots ++ [⟨z, m, pr⟩], spent := fs.spent + m * pr, book := fs.book ++ [.buy z m pr] }
def Pc.work (p : Pc) (c : Int) (n : Nat) : Pc := { p with at_ := p.at_ + 1, cost := p.cost + c, own := p.own + c, state := if p.at_ + 1 = (n : Int) then "made" else p.state }
def Fl.work (fs : Fl) (k : Nat) (p : Pc) (c : Int) (n : Nat) : Fl := { fs with pcs := fs.pcs.set k (p.work c n), spent := fs.spent + c, book := fs.book ++ [.work k] }
/-- a piece becomes another, which is noted -/
def Fl.put (fs : Fl) (k : Nat) (p : Pc) (d : Deed) : Fl := { fs with pcs := fs.pcs.set k p, book := fs.book ++ [d] }
theorem rowOf_mem {rs : List PRow} {z : Str} {r : PRow} (h : PM.rowOf rs z = some r) : r ∈ rs ∧ r.name = z := by
  unfold PM.rowOf at h
  exact ⟨List.mem_of_find?_eq_some h, by simpa using List.find?_some h⟩
end PM
namespace PM
open PySem L2 WK
def takeStep (z : Str) (acc : List (Nat × Int) × Int) (x : Lt × Nat) : List (Nat × Int) × Int :=
  if x.1.part = z ∧ 0 < x.1.left ∧ 0 < acc.2 then (acc.1 ++ [(x.2, if acc.2 < x.1.left then acc.2 else x.1.left)], acc.2 - (if acc.2 < x.1.left then acc.2 else x.1.left)) else acc
/-- the eldest lots of a part, so many; what is left to take -/
def takeLots (lots : List Lt) (z : Str) (m : Int) : List (Nat × Int) × Int := lots.zipIdx.foldl (takeStep z) ([], m)
/-- the pieces of a part in stock -/
def stockOf (pcs : List Pc) (z : Str) : List Nat := (pcs.zipIdx.filter fun x => decide (x.1.part = z) && decide (x.1.state = sStock)).map (·.2)
theorem takeStep_keys (z : Str) (acc : List (Nat × Int) × Int) (x : Lt × Nat) : ∀ k ∈ (takeStep z acc x).1.map (·.1), k ∈ acc.1.map (·.1) ∨ k = x.2 := by
  intro k hk
  unfold takeStep at hk
  split at hk
  · rw [List.map_append] at hk
    rcases List.mem_append.mp hk with hk | hk
    · exact .inl hk
    · right
      simpa using hk
  · exact .inl hk
theorem takeFold_keys (z : Str) : ∀ (xs : List (Lt × Nat)) (acc : List (Nat × Int) × Int), ∀ k ∈ (xs.foldl (takeStep z) acc).1.map (·.1), k ∈ acc.1.map (·.1) ∨ k ∈ xs.map (·.2)
  | [], acc, k, hk => .inl hk
  | x :: xs, acc, k, hk => by
    rcases takeFold_keys z xs (takeStep z acc x) k hk with h | h
    · rcases takeStep_keys z acc x k h with h | h
      · exact .inl h
      · right; rw [h]; exact List.mem_cons_self ..
    · exact .inr (List.mem_cons_of_mem _ h)
theorem takeFold_len (z : Str) : ∀ (xs : List (Lt × Nat)) (acc : List (Nat × Int) × Int), (xs.foldl (takeStep z) acc).1.length ≤ acc.1.length + xs.length
  | [], acc => Nat.le_refl _
  | x :: xs, acc => by
    have h1 := takeFold_len z xs (takeStep z acc x)
    have h2 : (takeStep z acc x).1.length ≤ acc.1.length + 1 := by
      unfold takeStep
      split
      · rw [List.length_append]; exact Nat.le_refl _
      · omega
    rw [List.foldl_cons, List.length_cons]
    omega
/-- what a piece takes -/
def Fl.give (fs : Fl) (k0 : Nat) : Hold → Fl
  | .pc k1 => match fs.pcs[k1]?, fs.pcs[k0]? with
    | some q, some p => { fs with pcs := (fs.pcs.set k1 { q with state := "within", above := some k0 }).set k0 { p with holds := p.holds ++ [.pc k1], cost := p.cost + q.cost } }
    | _, _ => fs
  | .lot j m => match fs.lots[j]?, fs.pcs[k0]? with
    | some x, some p => { fs with lots := fs.lots.set j { x with left := x.left - m }, pcs := fs.pcs.set k0 { p with holds := p.holds ++ [.lot j m], cost := p.cost + m * x.price } }
    | _, _ => fs
end PM
namespace PM
abbrev newPc (z : PySem.Str) : Pc := ⟨z, "making", 0, 0, [], none, none, 0⟩
end PM

namespace WK
open PySem PySem.Spec PyProof.Rows L2 PM
/-! the cells of a floor -/
structure ALot where
  a : Addr
  dx : Addr
  s : Lt
structure APc where
  a : Addr
  dx : Addr
  l : Addr
  p : Addr
  s : Pc
structure AFl where
  f : Addr
  dx : Addr
  bk : Addr
  la : Addr
  pa : Addr
  na : Addr
  rt : V
  nv : List V
  rs : List PRow
  rates : List Int
  lots : List ALot
  pcs : List APc
  book : List Deed
  spent : Int
  lost : Int
def AFl.st (A : AFl) : Fl := ⟨A.rs, A.rates, A.lots.map (·.s), A.pcs.map (·.s), A.book, A.spent, A.lost⟩
def optN : Option Nat → V
  | none => .non
  | some k => .int (k : Nat)
def optI : Option Int → V
  | none => .non
  | some k => .int k
abbrev flF (A : AFl) : List (Str × V) := [("book", .ref A.bk), ("rates", A.rt), ("lots", .ref A.la), ("pieces", .ref A.pa), ("notes", .ref A.na), ("spent", .int A.spent), ("lost", .int A.lost)]
abbrev ltF (s : Lt) : List (Str × V) := [("part", .str s.part), ("left", .int s.left), ("price", .int s.price)]
abbrev pcF (P : APc) : List (Str × V) := [("part", .str P.s.part), ("state", .str P.s.state), ("at", .int P.s.at_), ("cost", .int P.s.cost), ("lots", .ref P.l), ("pieces", .ref P.p), ("above", optN P.s.above), ("client", optI P.s.client)]
def lotKV (hs : List Hold) : List (Key × V) := (lotsOf hs).map fun x => (.inl (x.1 : Int), .int x.2)
def pcV (hs : List Hold) : List V := (pcsOf hs).map fun (k : Nat) => V.int (k : Int)
abbrev lotC (CL : Addr) (x : ALot) : Addr × HO := (x.a, .ins CL x.dx (ltF x.s))
abbrev pcI (CI : Addr) (P : APc) : Addr × HO := (P.a, .ins CI P.dx (pcF P))
abbrev pcL (P : APc) : Addr × HO := (P.l, .dK (lotKV P.s.holds))
abbrev pcP (P : APc) : Addr × HO := (P.p, .lst (pcV P.s.holds))
def pcC (CI : Addr) (P : APc) : Led := [pcI CI P, pcL P, pcP P]
def FL (CF CL CI : Addr) (A : AFl) : Led :=
  (A.f, .ins CF A.dx (flF A)) :: (A.la, .lst (A.lots.map fun x => .ref x.a)) :: (A.pa, .lst (A.pcs.map fun P => .ref P.a)) :: (A.na, .lst A.nv) :: (A.lots.map (lotC CL) ++ A.pcs.flatMap (pcC CI))
/-- the book of a floor -/
def BookAt (K : PySem.W.Frag) (CP : Addr) (B : Hp) (p : Addr) (rs : List PRow) : Prop := ∃ dx a l rkv lkv, B p = some (.ins CP dx (fldsP a l)) ∧ B a = some (.dK rkv) ∧ B l = some (.dK lkv) ∧ RowKV K B rkv rs ∧ LedKV B lkv (ledOf rs)
theorem BookAt.up {K : PySem.W.Frag} {CP : Addr} {B B' : Hp} {p : Addr} {rs : List PRow} (e : Ex B B') (h : BookAt K CP B p rs) : BookAt K CP B' p rs := by
  obtain ⟨dx, a, l, rkv, lkv, h1, h2, h3, h4, h5⟩ := h
  exact ⟨dx, a, l, rkv, lkv, e _ _ h1, e _ _ h2, e _ _ h3, h4.up e, h5.up e⟩
structure FB (K : PySem.W.Frag) (CP : Addr) (B : Hp) (A : AFl) : Prop where
  book : BookAt K CP B A.bk A.rs
  rates : Dp K B A.rt (.tuple (A.rates.map .int))
  notes : DpAll K B A.nv (A.book.map encDeed)
  good : GoodBook A.rs
  six : A.rates.length = 6
  few : A.lots.length + A.pcs.length ≤ A.book.length
theorem FB.up {K : PySem.W.Frag} {CP : Addr} {B B' : Hp} {A : AFl} (e : Ex B B') (h : FB K CP B A) : FB K CP B' A := ⟨h.book.up e, h.rates.up e, h.notes.up e, h.good, h.six, h.few⟩
/-- what the text says of the classes -/
structure FlK (K : PySem.W.Frag) (CP CF CL CI : Addr) : Prop where
  cP : Cls K CP
  cF : Cls K CF
  cL : Cls K CL
  cI : Cls K CI
  a1 : NoAttr K CP "rows"
  a2 : NoAttr K CP "led"
  b1 : NoAttr K CF "book"
  b2 : NoAttr K CF "rates"
  b3 : NoAttr K CF "lots"
  b4 : NoAttr K CF "pieces"
  b5 : NoAttr K CF "notes"
  b6 : NoAttr K CF "spent"
  b7 : NoAttr K CF "lost"
  c1 : NoAttr K CL "part"
  c2 : NoAttr K CL "left"
  c3 : NoAttr K CL "price"
  d1 : NoAttr K CI "part"
  d2 : NoAttr K CI "state"
  d3 : NoAttr K CI "at"
  d4 : NoAttr K CI "cost"
  d5 : NoAttr K CI "lots"
  d6 : NoAttr K CI "pieces"
  d7 : NoAttr K CI "above"
  d8 : NoAttr K CI "client"
section
variable {F : Ent} {B H : Hp} {L : Led} {CF CL CI : Addr} {A : AFl} {P : APc} {x : ALot} {k j : Nat}
theorem Ok.flF (S : Ok F B (FL CF CL CI A ++ L) H) : H A.f = some (.ins CF A.dx (flF A)) := S.mem (.head _)
theorem Ok.flL (S : Ok F B (FL CF CL CI A ++ L) H) : H A.la = some (.lst (A.lots.map fun x => .ref x.a)) := S.mem (.tail _ (.head _))
theorem Ok.flP (S : Ok F B (FL CF CL CI A ++ L) H) : H A.pa = some (.lst (A.pcs.map fun P => .ref P.a)) := S.mem (.tail _ (.tail _ (.head _)))
theorem mem_lot (h : A.lots[j]? = some x) : lotC CL x ∈ FL CF CL CI A ++ L := by
  refine List.mem_append_left _ ?_
  exact .tail _ (.tail _ (.tail _ (.tail _ (List.mem_append_left _ (List.mem_map.mpr ⟨x, List.mem_of_getElem? h, rfl⟩)))))
theorem mem_pc {q : Addr × HO} (h : A.pcs[k]? = some P) (hq : q ∈ pcC CI P) : q ∈ FL CF CL CI A ++ L := by
  refine List.mem_append_left _ ?_
  exact .tail _ (.tail _ (.tail _ (.tail _ (List.mem_append_right _ (List.mem_flatMap.mpr ⟨P, List.mem_of_getElem? h, hq⟩)))))
theorem Ok.flLot (S : Ok F B (FL CF CL CI A ++ L) H) (h : A.lots[j]? = some x) : H x.a = some (.ins CL x.dx (ltF x.s)) := S.mem (mem_lot h)
theorem Ok.flPc (S : Ok F B (FL CF CL CI A ++ L) H) (h : A.pcs[k]? = some P) : H P.a = some (.ins CI P.dx (pcF P)) := S.mem (mem_pc h (.head _))
theorem Ok.flPl (S : Ok F B (FL CF CL CI A ++ L) H) (h : A.pcs[k]? = some P) : H P.l = some (.dK (lotKV P.s.holds)) := S.mem (mem_pc h (.tail _ (.head _)))
theorem Ok.flPp (S : Ok F B (FL CF CL CI A ++ L) H) (h : A.pcs[k]? = some P) : H P.p = some (.lst (pcV P.s.holds)) := S.mem (mem_pc h (.tail _ (.tail _ (.head _))))
theorem at_split {α : Type} {l : List α} {k : Nat} {x : α} (h : l[k]? = some x) : ∃ l1 l2, l = l1 ++ x :: l2 ∧ l1.length = k ∧ ∀ y, l.set k y = l1 ++ y :: l2 := by
  obtain ⟨hk, e⟩ := List.getElem?_eq_some_iff.mp h
  refine ⟨l.take k, l.drop (k + 1), ?_, by rw [List.length_take]; omega, fun y => ?_⟩
  · rw [← e, List.getElem_cons_drop, List.take_append_drop]
  · rw [List.set_eq_take_append_cons_drop, if_pos hk]
/-- a piece's own fields -/
theorem Ok.setP (S : Ok F B (FL CF CL CI A ++ L) H) (h : A.pcs[k]? = some P) (P' : APc) (e1 : P'.a = P.a) (e2 : P'.dx = P.dx) (e3 : P'.l = P.l) (e4 : P'.p = P.p) (e5 : P'.s.holds = P.s.holds) :
    Ok F B (FL CF CL CI { A with pcs := A.pcs.set k P' } ++ L) (upd H P.a (.ins CI P.dx (pcF P'))) := by
  obtain ⟨l1, l2, hl, hk, hs⟩ := at_split h
  have hF : FL CF CL CI A ++ L = ((A.f, HO.ins CF A.dx (WK.flF A)) :: (A.la, .lst (A.lots.map fun x => .ref x.a)) :: (A.pa, .lst (A.pcs.map fun P => .ref P.a)) :: (A.na, .lst A.nv) :: (A.lots.map (lotC CL) ++ l1.flatMap (pcC CI))) ++ (P.a, .ins CI P.dx (pcF P)) :: (pcL P :: pcP P :: (l2.flatMap (pcC CI) ++ L)) := by
    unfold FL
    rw [hl]
    simp only [List.flatMap_append, List.flatMap_cons, List.append_assoc, List.cons_append]
    rfl
  have hr : (A.pcs.set k P').map (fun P => V.ref P.a) = A.pcs.map fun P => V.ref P.a := by
    rw [hs P', hl, List.map_append, List.map_append, List.map_cons, List.map_cons, e1]
  have hF' : FL CF CL CI { A with pcs := A.pcs.set k P' } ++ L = ((A.f, HO.ins CF A.dx (WK.flF A)) :: (A.la, .lst (A.lots.map fun x => .ref x.a)) :: (A.pa, .lst (A.pcs.map fun P => .ref P.a)) :: (A.na, .lst A.nv) :: (A.lots.map (lotC CL) ++ l1.flatMap (pcC CI))) ++ (P.a, .ins CI P.dx (pcF P')) :: (pcL P :: pcP P :: (l2.flatMap (pcC CI) ++ L)) := by
    unfold FL
    dsimp only
    rw [hr, hs P', hl]
    simp only [List.flatMap_append, List.flatMap_cons, List.append_assoc, List.cons_append]
    rw [show pcC CI P' = [(P.a, .ins CI P.dx (pcF P')), pcL P, pcP P] by unfold pcC pcI pcL pcP; rw [e1, e2, e3, e4, e5]]
    rfl
  rw [hF'] 
  rw [hF] at S
  exact S.mutAt
/-- a lot's fields -/
theorem Ok.setLt (S : Ok F B (FL CF CL CI A ++ L) H) (h : A.lots[j]? = some x) (s' : Lt) :
    Ok F B (FL CF CL CI { A with lots := A.lots.set j { x with s := s' } } ++ L) (upd H x.a (.ins CL x.dx (ltF s'))) := by
  obtain ⟨l1, l2, hl, hk, hs⟩ := at_split h
  have hF : FL CF CL CI A ++ L = ((A.f, HO.ins CF A.dx (WK.flF A)) :: (A.la, .lst (A.lots.map fun x => .ref x.a)) :: (A.pa, .lst (A.pcs.map fun P => .ref P.a)) :: (A.na, .lst A.nv) :: l1.map (lotC CL)) ++ (x.a, .ins CL x.dx (ltF x.s)) :: (l2.map (lotC CL) ++ (A.pcs.flatMap (pcC CI) ++ L)) := by
    unfold FL
    rw [hl]
    simp only [List.map_append, List.map_cons, List.append_assoc, List.cons_append]
  have hr : (A.lots.set j { x with s := s' }).map (fun x => V.ref x.a) = A.lots.map fun x => V.ref x.a := by
    rw [hs, hl, List.map_append, List.map_append, List.map_cons, List.map_cons]
  have hF' : FL CF CL CI { A with lots := A.lots.set j { x with s := s' } } ++ L = ((A.f, HO.ins CF A.dx (WK.flF A)) :: (A.la, .lst (A.lots.map fun x => .ref x.a)) :: (A.pa, .lst (A.pcs.map fun P => .ref P.a)) :: (A.na, .lst A.nv) :: l1.map (lotC CL)) ++ (x.a, .ins CL x.dx (ltF s')) :: (l2.map (lotC CL) ++ (A.pcs.flatMap (pcC CI) ++ L)) := by
    unfold FL
    dsimp only
    rw [hr, hs, hl]
    simp only [List.map_append, List.map_cons, List.append_assoc, List.cons_append]
  rw [hF']
  rw [hF] at S
  exact S.mutAt
theorem Ok.setSpent (S : Ok F B (FL CF CL CI A ++ L) H) (i : Int) : Ok F B (FL CF CL CI { A with spent := i } ++ L) (upd H A.f (.ins CF A.dx (WK.flF { A with spent := i }))) := S.mut
theorem Ok.addNote (S : Ok F B (FL CF CL CI A ++ L) H) (v : V) (d : Deed) : Ok F B (FL CF CL CI { A with nv := A.nv ++ [v], book := A.book ++ [d] } ++ L) (upd H A.na (.lst (A.nv ++ [v]))) :=
  S.mutN 3 rfl
end
end WK

namespace WK
open PySem PySem.Spec PyProof.Rows L2 PM
/-! attributes as targets -/
def gAtt (K : PySem.W.Frag) (to : TE) (f : Str) : TG := fun v σ H Q => to σ H fun x H2 => ∃ a C dx fs, x = .ref a ∧ H2 a = some (.ins C dx fs) ∧ Cls K C ∧ NoAttr K C f ∧ fs.length < 1000 ∧ Q σ (upd H2 a (.ins C dx (putF f v fs)))
def AttQ (K : PySem.W.Frag) (f : Str) (y : V) (σ : L2.St) (Q : L2.St → Hp → Prop) : VK := fun x H2 => ∃ a C dx fs, x = .ref a ∧ H2 a = some (.ins C dx fs) ∧ Cls K C ∧ NoAttr K C f ∧ fs.length < 1000 ∧ Q σ (upd H2 a (.ins C dx (putF f y fs)))
theorem r_gatt {K : PySem.W.Frag} {σ : L2.St} {H : Hp} {to : TE} {f : Str} {v : V} {Q : L2.St → Hp → Prop} (k : to σ H (AttQ K f v σ Q)) : gAtt K to f v σ H Q := k
theorem ps_fldK (K : PySem.W.Frag) {X : Cx} {o value : Expr} {f : Str} {pos pos' : Pos} {ta tv : TE} (ha : PE X o ta) (hv : PE X value tv) (hs : swapsWith value (some (.Attribute o f pos')) pos.line X.env = pure false) (hK : X.K = K := by rfl) : PS X (.Assign [.Attribute o f pos'] value pos) (sFld K ta tv f) := by
  subst hK
  exact ps_fld ha hv hs
theorem ps_augK (K : PySem.W.Frag) {X : Cx} {o value : Expr} {f : Str} {pos tpos : Pos} {ta tv : TE} {op : Operator} {rd : V → V → Hp → VK → Prop} (ha : PE X o ta) (hv : PE X value tv) (hop : InOp X op rd) (hK : X.K = K := by rfl) : PS X (.AugAssign (.Attribute o f tpos) op value pos) (sFldAug K ta tv rd f) := by
  subst hK
  exact ps_fldaug ha hv hop
/-! o.f op= e -/
def AfQ (a C : Addr) (f : Str) (D : Ends) (σ : L2.St) : VK := fun z H3 => ∃ dx' fs', H3 a = some (.ins C dx' fs') ∧ fs'.length < 1000 ∧ D.nx σ (upd H3 a (.ins C dx' (putF f z fs')))
section
variable {K : PySem.W.Frag} {σ : L2.St} {H : Hp} {tv : TE} {f : Str} {Q : VK} {D : Ends} {a C dx : Addr} {fs : List (Str × V)} {v z : V} {rd : V → V → Hp → VK → Prop}
theorem afdQ (h : H a = some (.ins C dx fs)) (c : Cls K C) (n : NoAttr K C f) (l : fs.lookup f = some v) (k : tv σ H fun y H2 => rd v y H2 (AfQ a C f D σ)) : AFdQ K f rd tv D σ (.ref a) H := ⟨a, C, dx, fs, v, rfl, h, c, n, l, k⟩
theorem r_rAdd {i j : Int} (k : Q (.int (i + j)) H) : rAdd (.int i) (.int j) H Q := ⟨i, j, rfl, rfl, k⟩
theorem r_rSub {i j : Int} (k : Q (.int (i - j)) H) : rSub (.int i) (.int j) H Q := ⟨i, j, rfl, rfl, k⟩
end
def Pr3Q (Q : V → V → V → Hp → Prop) (vs : List V) (H : Hp) : Prop := ∃ v w u, vs = [v, w, u] ∧ Q v w u H
theorem r_par3 {i j l : Nat} {tas : TA} {σ : L2.St} {H : Hp} {D : Ends} (k : tas σ H (Pr3Q fun u v w H1 => D.nx (((σ.set i (some u)).set j (some v)).set l (some w)) H1)) : tPar3 i j l tas D σ H := k
theorem r_par33 {Q : V → V → V → Hp → Prop} {v w u : V} {H : Hp} (k : Q v w u H) : Pr3Q Q [v, w, u] H := ⟨v, w, u, rfl, k⟩
/-! in a floor -/
section
variable {K : PySem.W.Frag} {σ : L2.St} {D : Ends} {Qg : L2.St → Hp → Prop} {F : Ent} {B H : Hp} {L : Led} {CF CL CI : Addr} {A A' : AFl} {P : APc} {x : ALot} {k j : Nat} {f : Str} {y : V}
theorem Ok.under (L0 : Led) {H' : Hp} (S : Ok F B (L0 ++ (FL CF CL CI A ++ L)) H) (h : ∀ L, Ok F B (FL CF CL CI A ++ L) H → Ok F B (FL CF CL CI A' ++ L) H') : Ok F B (L0 ++ (FL CF CL CI A' ++ L)) H' := by
  have p : ∀ X : Led, (L0 ++ (X ++ L)).Perm (X ++ (L0 ++ L)) := fun X => by
    rw [← List.append_assoc, ← List.append_assoc]
    exact List.Perm.append_right _ List.perm_append_comm
  exact (h _ (S.perm (p _))).perm (p _).symm
theorem sfdPx (L0 : Led) (S : Ok F B (L0 ++ (FL CF CL CI A ++ L)) H) (h : A.pcs[k]? = some P) (c : Cls K CI) (na : NoAttr K CI f) (P' : APc) (e : P'.a = P.a ∧ P'.dx = P.dx ∧ P'.l = P.l ∧ P'.p = P.p ∧ P'.s.holds = P.s.holds) (hf : putF f y (pcF P) = pcF P')
    (kk : ∀ H', Ok F B (L0 ++ (FL CF CL CI { A with pcs := A.pcs.set k P' } ++ L)) H' → D.nx σ H') : SFdQ K f y D σ (.ref P.a) H := by
  have S1 := S.under L0 fun L S => S.setP h P' e.1 e.2.1 e.2.2.1 e.2.2.2.1 e.2.2.2.2
  rw [← hf] at S1
  have hP : H P.a = some (.ins CI P.dx (pcF P)) := S.mem (List.mem_append_right _ (mem_pc h (.head _)))
  exact ⟨P.a, CI, P.dx, pcF P, rfl, hP, c, na, by show 8 < 1000; decide, kk _ S1⟩
theorem afPx (L0 : Led) (S : Ok F B (L0 ++ (FL CF CL CI A ++ L)) H) (h : A.pcs[k]? = some P) (P' : APc) (e : P'.a = P.a ∧ P'.dx = P.dx ∧ P'.l = P.l ∧ P'.p = P.p ∧ P'.s.holds = P.s.holds) (hf : putF f y (pcF P) = pcF P')
    (kk : ∀ H', Ok F B (L0 ++ (FL CF CL CI { A with pcs := A.pcs.set k P' } ++ L)) H' → D.nx σ H') : AfQ P.a CI f D σ y H := by
  have S1 := S.under L0 fun L S => S.setP h P' e.1 e.2.1 e.2.2.1 e.2.2.2.1 e.2.2.2.2
  rw [← hf] at S1
  have hP : H P.a = some (.ins CI P.dx (pcF P)) := S.mem (List.mem_append_right _ (mem_pc h (.head _)))
  exact ⟨P.dx, pcF P, hP, by show 8 < 1000; decide, kk _ S1⟩
theorem afLx (L0 : Led) (S : Ok F B (L0 ++ (FL CF CL CI A ++ L)) H) (h : A.lots[j]? = some x) (s' : Lt) (hf : putF f y (ltF x.s) = ltF s')
    (kk : ∀ H', Ok F B (L0 ++ (FL CF CL CI { A with lots := A.lots.set j { x with s := s' } } ++ L)) H' → D.nx σ H') : AfQ x.a CL f D σ y H := by
  have S1 := S.under L0 fun L S => S.setLt h s'
  rw [← hf] at S1
  have hP : H x.a = some (.ins CL x.dx (ltF x.s)) := S.mem (List.mem_append_right _ (mem_lot h))
  exact ⟨x.dx, ltF x.s, hP, by show 3 < 1000; decide, kk _ S1⟩
theorem afSpentx (L0 : Led) (S : Ok F B (L0 ++ (FL CF CL CI A ++ L)) H) {i : Int} (kk : ∀ H', Ok F B (L0 ++ (FL CF CL CI { A with spent := i } ++ L)) H' → D.nx σ H') : AfQ A.f CF "spent" D σ (.int i) H := by
  have S1 := S.under L0 fun L S => S.setSpent i
  have hP : H A.f = some (.ins CF A.dx (flF A)) := S.mem (List.mem_append_right _ (.head _))
  exact ⟨A.dx, flF A, hP, by show 7 < 1000; decide, kk _ S1⟩
/-- self.notes.append(..) -/
theorem v_notex {Pg : Program} {w : World} {Q : VK} {v : V} (L0 : Led) (d : Deed) (S : Ok F B (L0 ++ (FL CF CL CI A ++ L)) H) (hz : A.nv.length < sizeLine) (kk : ∀ H', Ok F B (L0 ++ (FL CF CL CI { A with nv := A.nv ++ [v], book := A.book ++ [d] } ++ L)) H' → Q .non H') : MetU Pg w K "list.append" (.ref A.na) [v] H Q :=
  .of (fun _ _ => mt_append) ⟨A.na, A.nv, v, rfl, rfl, S.mem (List.mem_append_right _ (.tail _ (.tail _ (.tail _ (.head _))))), hz, kk _ (S.under L0 fun L S => S.addNote v d)⟩
/-! membership, for reading -/
theorem mF : (A.f, HO.ins CF A.dx (flF A)) ∈ FL CF CL CI A ++ L := .head _
theorem mFl : (A.la, HO.lst (A.lots.map fun x => .ref x.a)) ∈ FL CF CL CI A ++ L := .tail _ (.head _)
theorem mFp : (A.pa, HO.lst (A.pcs.map fun P => .ref P.a)) ∈ FL CF CL CI A ++ L := .tail _ (.tail _ (.head _))
theorem mFn : (A.na, HO.lst A.nv) ∈ FL CF CL CI A ++ L := .tail _ (.tail _ (.tail _ (.head _)))
theorem mFlot (h : A.lots[j]? = some x) : (x.a, HO.ins CL x.dx (ltF x.s)) ∈ FL CF CL CI A ++ L := mem_lot h
theorem mFpc (h : A.pcs[k]? = some P) : (P.a, HO.ins CI P.dx (pcF P)) ∈ FL CF CL CI A ++ L := mem_pc h (.head _)
theorem mFpl (h : A.pcs[k]? = some P) : (P.l, HO.dK (lotKV P.s.holds)) ∈ FL CF CL CI A ++ L := mem_pc h (.tail _ (.head _))
theorem mFpp (h : A.pcs[k]? = some P) : (P.p, HO.lst (pcV P.s.holds)) ∈ FL CF CL CI A ++ L := mem_pc h (.tail _ (.tail _ (.head _)))
/-! .. with nothing ahead of it -/
theorem sfdP (S : Ok F B (FL CF CL CI A ++ L) H) (h : A.pcs[k]? = some P) (c : Cls K CI) (na : NoAttr K CI f) (P' : APc) (e : P'.a = P.a ∧ P'.dx = P.dx ∧ P'.l = P.l ∧ P'.p = P.p ∧ P'.s.holds = P.s.holds) (hf : putF f y (pcF P) = pcF P')
    (kk : ∀ H', Ok F B (FL CF CL CI { A with pcs := A.pcs.set k P' } ++ L) H' → D.nx σ H') : SFdQ K f y D σ (.ref P.a) H := sfdPx [] S h c na P' e hf kk
theorem afP (S : Ok F B (FL CF CL CI A ++ L) H) (h : A.pcs[k]? = some P) (P' : APc) (e : P'.a = P.a ∧ P'.dx = P.dx ∧ P'.l = P.l ∧ P'.p = P.p ∧ P'.s.holds = P.s.holds) (hf : putF f y (pcF P) = pcF P')
    (kk : ∀ H', Ok F B (FL CF CL CI { A with pcs := A.pcs.set k P' } ++ L) H' → D.nx σ H') : AfQ P.a CI f D σ y H := afPx [] S h P' e hf kk
theorem afL (S : Ok F B (FL CF CL CI A ++ L) H) (h : A.lots[j]? = some x) (s' : Lt) (hf : putF f y (ltF x.s) = ltF s')
    (kk : ∀ H', Ok F B (FL CF CL CI { A with lots := A.lots.set j { x with s := s' } } ++ L) H' → D.nx σ H') : AfQ x.a CL f D σ y H := afLx [] S h s' hf kk
theorem afSpent (S : Ok F B (FL CF CL CI A ++ L) H) {i : Int} (kk : ∀ H', Ok F B (FL CF CL CI { A with spent := i } ++ L) H' → D.nx σ H') : AfQ A.f CF "spent" D σ (.int i) H := afSpentx [] S kk
theorem v_note {Pg : Program} {w : World} {Q : VK} {v : V} (d : Deed) (S : Ok F B (FL CF CL CI A ++ L) H) (hz : A.nv.length < sizeLine) (kk : ∀ H', Ok F B (FL CF CL CI { A with nv := A.nv ++ [v], book := A.book ++ [d] } ++ L) H' → Q .non H') : MetU Pg w K "list.append" (.ref A.na) [v] H Q := v_notex [] d S hz kk
theorem mFpcE {a : Addr} (h : A.pcs[k]? = some P) (e : a = P.a) : (a, HO.ins CI P.dx (pcF P)) ∈ FL CF CL CI A ++ L := e ▸ mFpc h
theorem mFplE {a : Addr} (h : A.pcs[k]? = some P) (e : a = P.l) : (a, HO.dK (lotKV P.s.holds)) ∈ FL CF CL CI A ++ L := e ▸ mFpl h
theorem mFppE {a : Addr} (h : A.pcs[k]? = some P) (e : a = P.p) : (a, HO.lst (pcV P.s.holds)) ∈ FL CF CL CI A ++ L := e ▸ mFpp h
end
end WK
namespace WK
open PySem PySem.Spec PyProof.Rows L2 PM
/-- what reads alike in all that comes of an entry -/
def Stays (K : PySem.W.Frag) (F : Ent) (B : Hp) (v : V) (xs : List V) : Prop := ∃ a, v = .ref a ∧ ((∀ B' L H, Ex B B' → Ok F B' L H → SqL K H a xs) ∨ SqT K B a xs)
theorem Stays.ofCell {K : PySem.W.Frag} {B H0 : Hp} {As : List Addr} {a : Addr} {xs : List V} (h : H0 a = some (.lst xs)) (ha : a ∉ As) : Stays K ⟨B, H0, As⟩ B (.ref a) xs :=
  ⟨a, rfl, .inl fun B' L H e S => .inl (.inl (S.keep a _ h ha))⟩
section
variable {P : Program} {w : World} {K : PySem.W.Frag} {H : Hp} {Q : VK} {a : Addr} {z : Str} {zs : List Str}
theorem v_notInT (h : SqT K H a (zs.map V.str)) (k : Q (.bl (!decide (z ∈ zs))) H) : OpU P w K (compareOp .NotIn) (.str z) (.ref a) H Q :=
  .ofK (r := fun K => rIn K true) (fun _ _ => op_notIn_seq) ⟨a, _, rfl, .inr h, rfl, flat_strs zs, by rw [if_pos rfl, inV_strs]; exact k⟩
end
end WK
namespace WK
open PySem PySem.Spec PyProof.Rows L2 PM
section
variable {F : Ent} {B H : Hp} {L : Led} {CF CL CI : Addr} {A : AFl}
theorem Ok.nil1 (S : Ok F B L H) : Ok F B (L ++ []) H := by rw [List.append_nil]; exact S
theorem Ok.nil2 (S : Ok F B (L ++ []) H) : Ok F B L H := by rw [List.append_nil] at S; exact S
/-- a new lot in the list -/
theorem Ok.addLot {x : ALot} (S : Ok F B (lotC CL x :: (FL CF CL CI A ++ L)) H) : Ok F B (FL CF CL CI { A with lots := A.lots ++ [x] } ++ L) (upd H A.la (.lst ((A.lots.map fun x => .ref x.a) ++ [.ref x.a]))) := by
  have S1 : Ok F B _ (upd H A.la (.lst ((A.lots.map fun x => .ref x.a) ++ [.ref x.a]))) := S.mutN 2 (p := A.la) (o := .lst (A.lots.map fun x => .ref x.a)) (o' := .lst ((A.lots.map fun x => .ref x.a) ++ [.ref x.a])) rfl
  refine S1.perm ?_
  unfold FL
  dsimp only
  rw [List.map_append, List.map_append]
  show List.Perm (lotC CL x :: (A.f, _) :: (A.la, _) :: (A.pa, _) :: (A.na, _) :: ((A.lots.map (lotC CL) ++ A.pcs.flatMap (pcC CI)) ++ L)) ((A.f, _) :: (A.la, _) :: (A.pa, _) :: (A.na, _) :: (((A.lots.map (lotC CL) ++ [lotC CL x]) ++ A.pcs.flatMap (pcC CI)) ++ L))
  have e : ∀ (p q r s : Addr × HO) (X Y Z : Led) (c : Addr × HO), List.Perm (c :: p :: q :: r :: s :: ((X ++ Y) ++ Z)) (p :: q :: r :: s :: (((X ++ [c]) ++ Y) ++ Z)) := fun p q r s X Y Z c => by
    have h := (List.perm_middle (a := c) (l₁ := p :: q :: r :: s :: X) (l₂ := Y ++ Z)).symm
    simpa [List.append_assoc] using h
  exact e _ _ _ _ _ _ _ _
theorem Ok.addPc {P : APc} (S : Ok F B (pcC CI P ++ (FL CF CL CI A ++ L)) H) : Ok F B (FL CF CL CI { A with pcs := A.pcs ++ [P] } ++ L) (upd H A.pa (.lst ((A.pcs.map fun P => .ref P.a) ++ [.ref P.a]))) := by
  have S1 : Ok F B _ (upd H A.pa (.lst ((A.pcs.map fun P => .ref P.a) ++ [.ref P.a]))) := S.mutN 5 (p := A.pa) (o := .lst (A.pcs.map fun P => .ref P.a)) (o' := .lst ((A.pcs.map fun P => .ref P.a) ++ [.ref P.a])) rfl
  refine S1.perm ?_
  unfold FL
  dsimp only
  rw [List.map_append, List.flatMap_append, List.flatMap_cons, List.flatMap_nil, List.append_nil]
  show List.Perm (pcC CI P ++ ((A.f, _) :: (A.la, _) :: (A.pa, _) :: (A.na, _) :: ((A.lots.map (lotC CL) ++ A.pcs.flatMap (pcC CI)) ++ L))) ((A.f, _) :: (A.la, _) :: (A.pa, _) :: (A.na, _) :: ((A.lots.map (lotC CL) ++ (A.pcs.flatMap (pcC CI) ++ pcC CI P)) ++ L))
  have e : ∀ (p q r s : Addr × HO) (X Y Z C : Led), List.Perm (C ++ (p :: q :: r :: s :: ((X ++ Y) ++ Z))) (p :: q :: r :: s :: ((X ++ (Y ++ C)) ++ Z)) := fun p q r s X Y Z C => by
    have h := List.Perm.append_right Z (List.perm_append_comm (l₁ := C) (l₂ := p :: q :: r :: s :: (X ++ Y)))
    simpa [List.append_assoc] using h
  exact e _ _ _ _ _ _ _ _
end
end WK
namespace WK
open PySem PySem.Spec PyProof.Rows L2 PM
/-- a tuple behind a tuple -/
theorem v_catT {P : Program} {w : World} {K : PySem.W.Frag} {F : Ent} {B H : Hp} {L : Led} {Q : VK} {a b : Addr} {xs ys : List V} (S : Ok F B L H) (h1 : SqT K H a xs) (h2 : SqT K H b ys) (n1 : xs ≠ []) (n2 : ys ≠ []) (hz : xs.length + ys.length ≤ sizeLine)
    (k : ∀ p B' H', Ex B B' → B' p = some (.tup (xs ++ ys)) → Ok F B' L H' → Q (.ref p) H') : OpU P w K (binaryOp .Add) (.ref a) (.ref b) H Q := by
  exact .ofK (r := rCatT) (fun _ _ => op_catT) ⟨a, b, xs, ys, rfl, rfl, h1, h2, n1, hz, fun e => absurd e n2, fun _ p hp => k p _ _ (S.exB hp) upd_same (S.newB hp)⟩
end WK
namespace WK
open PySem PySem.Spec PyProof.Rows L2 PM
/-- enumerate(a list of one's own) -/
theorem src_enumO {α : Type} {K : PySem.W.Frag} {a : Addr} (g : α → V) (as : List α) : Src (Ite K a) (fun _ L => (a, HO.lst (as.map g)) ∈ L) as.zipIdx (fun B x y => ∃ T, x = .ref T ∧ B T = some (.tup [.int (y.2 : Nat), g y.1])) := by
  have hl : (as.map g).length = as.length := List.length_map _
  refine ⟨_, _, (by rw [List.length_zipIdx]; exact hl ▸ walk_enum (K := K) (a := a) (xs := as.map g)), fun F B L H S gm => S.sqMem gm, fun F B L i H x H' S gm y hi => ?_⟩
  obtain ⟨T, x', y', rfl, n, rfl, e1, e2⟩ := y
  cases e1
  dsimp only at e2
  rw [List.getElem?_map] at e2
  cases e : as[i]? with
  | none => rw [e] at e2; cases e2
  | some z =>
    rw [e] at e2
    cases e2
    exact ⟨(z, i), upd B T (.tup [.int (i : Nat), g z]), getElem_zipIdx e, S.exB n, S.newB n, T, rfl, upd_same⟩
theorem enuO {K : PySem.W.Frag} {F : Ent} {B H : Hp} {L : Led} {R : It → Hp → Prop} {a : Addr} {xs : List V} (S : Ok F B L H) (h : (a, HO.lst xs) ∈ L) (k : R (Ite K a) H) : EnvQ K R [.ref a] H := ⟨a, xs, rfl, .inl ⟨S.sqMem h, k⟩⟩
section
variable {F : Ent} {B H : Hp} {L : Led} {CF CL CI : Addr} {A : AFl} {P : APc} {k : Nat}
theorem Ok.pcCells (S : Ok F B (FL CF CL CI A ++ L) H) (h : A.pcs[k]? = some P) (P' : APc) (e1 : P'.a = P.a) {p : Addr} {o o' : HO} {X Y X' Y' : Led} (hc : pcC CI P = X ++ (p, o) :: Y) (hc' : pcC CI P' = X ++ (p, o') :: Y) :
    Ok F B (FL CF CL CI { A with pcs := A.pcs.set k P' } ++ L) (upd H p o') := by
  obtain ⟨l1, l2, hl, hk, hs⟩ := at_split h
  have hF : FL CF CL CI A ++ L = ((A.f, HO.ins CF A.dx (WK.flF A)) :: (A.la, .lst (A.lots.map fun x => .ref x.a)) :: (A.pa, .lst (A.pcs.map fun P => .ref P.a)) :: (A.na, .lst A.nv) :: (A.lots.map (lotC CL) ++ (l1.flatMap (pcC CI) ++ X))) ++ (p, o) :: (Y ++ (l2.flatMap (pcC CI) ++ L)) := by
    unfold FL
    rw [hl]
    simp only [List.flatMap_append, List.flatMap_cons, List.append_assoc, List.cons_append, hc]
  have hr : (A.pcs.set k P').map (fun P => V.ref P.a) = A.pcs.map fun P => V.ref P.a := by
    rw [hs P', hl, List.map_append, List.map_append, List.map_cons, List.map_cons, e1]
  have hF' : FL CF CL CI { A with pcs := A.pcs.set k P' } ++ L = ((A.f, HO.ins CF A.dx (WK.flF A)) :: (A.la, .lst (A.lots.map fun x => .ref x.a)) :: (A.pa, .lst (A.pcs.map fun P => .ref P.a)) :: (A.na, .lst A.nv) :: (A.lots.map (lotC CL) ++ (l1.flatMap (pcC CI) ++ X))) ++ (p, o') :: (Y ++ (l2.flatMap (pcC CI) ++ L)) := by
    unfold FL
    dsimp only
    rw [hr, hs P', hl]
    simp only [List.flatMap_append, List.flatMap_cons, List.append_assoc, List.cons_append, hc']
  rw [hF']
  rw [hF] at S
  exact S.mutAt
theorem lotKV_app (a b : List Hold) : lotKV (a ++ b) = lotKV a ++ lotKV b := by
  unfold lotKV
  rw [lotsOf_app, List.map_append]
theorem pcV_app (a b : List Hold) : pcV (a ++ b) = pcV a ++ pcV b := by
  unfold pcV
  rw [pcsOf_app, List.map_append]
abbrev APc.hold (P : APc) (h : Hold) : APc := { P with s := { P.s with holds := P.s.holds ++ [h] } }
theorem Ok.holdPc (S : Ok F B (FL CF CL CI A ++ L) H) (h : A.pcs[k]? = some P) (k1 : Nat) : Ok F B (FL CF CL CI { A with pcs := A.pcs.set k (P.hold (.pc k1)) } ++ L) (upd H P.p (.lst (pcV P.s.holds ++ [.int (k1 : Int)]))) := by
  refine S.pcCells h (P.hold (.pc k1)) rfl (X := [pcI CI P, pcL P]) (Y := []) (o := .lst (pcV P.s.holds)) (X' := []) (Y' := []) rfl ?_
  unfold pcC pcL pcP
  show [pcI CI P, (P.l, HO.dK (lotKV (P.s.holds ++ [.pc k1]))), (P.p, HO.lst (pcV (P.s.holds ++ [.pc k1])))] = _
  rw [lotKV_app, pcV_app]
  show [pcI CI P, (P.l, HO.dK (lotKV P.s.holds ++ [])), (P.p, HO.lst (pcV P.s.holds ++ [.int (k1 : Int)]))] = _
  rw [List.append_nil]
  rfl
theorem Ok.holdLot (S : Ok F B (FL CF CL CI A ++ L) H) (h : A.pcs[k]? = some P) (j : Nat) (m : Int) : Ok F B (FL CF CL CI { A with pcs := A.pcs.set k (P.hold (.lot j m)) } ++ L) (upd H P.l (.dK (lotKV P.s.holds ++ [(.inl (j : Int), .int m)]))) := by
  refine S.pcCells h (P.hold (.lot j m)) rfl (X := [pcI CI P]) (Y := [pcP P]) (o := .dK (lotKV P.s.holds)) (X' := []) (Y' := []) rfl ?_
  unfold pcC pcL pcP
  show [pcI CI P, (P.l, HO.dK (lotKV (P.s.holds ++ [.lot j m]))), (P.p, HO.lst (pcV (P.s.holds ++ [.lot j m])))] = _
  rw [lotKV_app, pcV_app]
  show [pcI CI P, (P.l, HO.dK (lotKV P.s.holds ++ [(.inl (j : Int), .int m)])), (P.p, HO.lst (pcV P.s.holds ++ []))] = _
  rw [List.append_nil]
  rfl
end
end WK
namespace WK
open PySem PySem.Spec PyProof.Rows L2 PM
section
variable {Pg : Program} {w : World} {K : PySem.W.Frag} {Q : VK} {F : Ent} {B H : Hp} {L : Led} {CF CL CI : Addr} {A : AFl} {P : APc} {k : Nat}
theorem v_addLot {x : ALot} (S : Ok F B (lotC CL x :: (FL CF CL CI A ++ L)) H) (hz : A.lots.length < sizeLine) (kk : ∀ H', Ok F B (FL CF CL CI { A with lots := A.lots ++ [x] } ++ L) H' → Q .non H') : MetU Pg w K "list.append" (.ref A.la) [.ref x.a] H Q :=
  .of (fun _ _ => mt_append) ⟨A.la, _, .ref x.a, rfl, rfl, S.mem (.tail _ mFl), by rw [List.length_map]; exact hz, kk _ S.addLot⟩
theorem v_addPc (S : Ok F B (pcC CI P ++ (FL CF CL CI A ++ L)) H) (hz : A.pcs.length < sizeLine) (kk : ∀ H', Ok F B (FL CF CL CI { A with pcs := A.pcs ++ [P] } ++ L) H' → Q .non H') : MetU Pg w K "list.append" (.ref A.pa) [.ref P.a] H Q :=
  .of (fun _ _ => mt_append) ⟨A.pa, _, .ref P.a, rfl, rfl, S.mem (.tail _ (.tail _ (.tail _ mFp))), by rw [List.length_map]; exact hz, kk _ S.addPc⟩
theorem v_holdPc (S : Ok F B (FL CF CL CI A ++ L) H) (h : A.pcs[k]? = some P) (hz : P.s.holds.length < 10000) (k1 : Nat) (kk : ∀ H', Ok F B (FL CF CL CI { A with pcs := A.pcs.set k (P.hold (.pc k1)) } ++ L) H' → Q .non H') : MetU Pg w K "list.append" (.ref P.p) [.int (k1 : Int)] H Q :=
  .of (fun _ _ => mt_append) ⟨P.p, _, .int (k1 : Int), rfl, rfl, S.mem (mFpp h), by
    have : (pcV P.s.holds).length ≤ P.s.holds.length := by unfold pcV pcsOf; rw [List.length_map]; exact List.length_filterMap_le ..
    rw [sizeLine_eq]; omega, kk _ (S.holdPc h k1)⟩
theorem v_holdLot {Q : Hp → Prop} (S : Ok F B (FL CF CL CI A ++ L) H) (h : A.pcs[k]? = some P) (hz : P.s.holds.length < 10000) (j : Nat) (m : Int) (hn : ∀ m', Hold.lot j m' ∉ P.s.holds) (kk : ∀ H', Ok F B (FL CF CL CI { A with pcs := A.pcs.set k (P.hold (.lot j m)) } ++ L) H' → Q H') : SetU Pg w K (.ref P.l) (.int (j : Int)) (.int m) H Q := by
  have hl : (lotKV P.s.holds).length ≤ P.s.holds.length := by unfold lotKV lotsOf; rw [List.length_map]; exact List.length_filterMap_le ..
  refine v_setD (DPut.k (k := .inl (j : Int)) (S.mem (mFpl h)) (by rw [sizeLine_eq]; omega)) ?_
  have hv : valV (lotKV P.s.holds) (.inl (j : Int)) = none := valV_none fun hm => by
    obtain ⟨x, hx, e⟩ := List.mem_map.mp hm
    unfold lotKV lotsOf at hx
    obtain ⟨y, hy, rfl⟩ := List.mem_map.mp hx
    obtain ⟨q, hq, eq⟩ := List.mem_filterMap.mp hy
    cases q with
    | pc c => cases eq
    | lot j' m' =>
      cases eq
      have : ((j' : Nat) : Int) = (j : Int) := Sum.inl.inj e
      have e2 : j' = j := by omega
      subst e2
      exact hn _ hq
  rw [putK_new _ hv]
  exact kk _ (S.holdLot h j m)
end
end WK

namespace PM
open PySem L2 WK
def lotHolds (xs : List (Nat × Int)) : List Hold := xs.map fun x => .lot x.1 x.2
def pcHolds (ks : List Nat) : List Hold := ks.map .pc
def isBought (rs : List PRow) (z : Str) : Bool := match PM.rowOf rs z with | some r => r.needs.isEmpty && r.steps.isEmpty | none => false
/-- what is taken of one need -/
def Fl.taken (fs : Fl) (z : Str) (m : Int) : Option (List Hold) :=
  if isBought fs.rs z then (if (takeLots fs.lots z m).2 = 0 then some (lotHolds (takeLots fs.lots z m).1) else none)
  else if m.toNat ≤ (stockOf fs.pcs z).length then some (pcHolds ((stockOf fs.pcs z).take m.toNat)) else none
def Fl.giveAll (fs : Fl) (k0 : Nat) (hs : List Hold) : Fl := hs.foldl (fun s h => s.give k0 h) fs
theorem giveAll_app (fs : Fl) (k0 : Nat) (a b : List Hold) : fs.giveAll k0 (a ++ b) = (fs.giveAll k0 a).giveAll k0 b := List.foldl_append
/-- a piece begun, holding these -/
def Fl.begin_ (fs : Fl) (z : Str) (noSteps : Bool) (hs : List Hold) : Fl :=
  let f1 := { fs with pcs := fs.pcs ++ [newPc z] }.giveAll fs.pcs.length hs
  { f1 with pcs := if noSteps = true then f1.pcs.modify fs.pcs.length (fun p => { p with state := "made" }) else f1.pcs, book := f1.book ++ [.begin_ z] }
/-- what may be put into a piece -/
structure GiveOk (nl np k0 : Nat) (old hs : List Hold) : Prop where
  pc : ∀ k, Hold.pc k ∈ hs → k < np ∧ k ≠ k0
  lot : ∀ j m, Hold.lot j m ∈ hs → j < nl ∧ 0 ≤ m ∧ m < 1000
  nd : ((old ++ hs).filterMap fun h => match h with | .lot j _ => some j | .pc _ => none).Nodup
  len : old.length + hs.length < 10000
theorem GiveOk.head {nl np k0 : Nat} {old hs : List Hold} {h : Hold} (g : GiveOk nl np k0 old (h :: hs)) : GiveOk nl np k0 (old ++ [h]) hs where
  pc := fun k hk => g.pc k (.tail _ hk)
  lot := fun j m hk => g.lot j m (.tail _ hk)
  nd := by have := g.nd; rw [show old ++ h :: hs = (old ++ [h]) ++ hs by simp] at this; exact this
  len := by have := g.len; rw [List.length_append]; simp at this ⊢; omega
theorem GiveOk.app {nl np k0 : Nat} {old a b : List Hold} (g : GiveOk nl np k0 old (a ++ b)) : GiveOk nl np k0 old a ∧ GiveOk nl np k0 (old ++ a) b := by
  refine ⟨⟨fun k hk => g.pc k (List.mem_append_left _ hk), fun j m hk => g.lot j m (List.mem_append_left _ hk), ?_, ?_⟩, ⟨fun k hk => g.pc k (List.mem_append_right _ hk), fun j m hk => g.lot j m (List.mem_append_right _ hk), ?_, ?_⟩⟩
  · have := g.nd
    rw [← List.append_assoc, List.filterMap_append, List.nodup_append] at this
    exact this.1
  · have := g.len; rw [List.length_append] at this; omega
  · have := g.nd
    rwa [← List.append_assoc] at this
  · have := g.len; rw [List.length_append] at this ⊢; omega
theorem GiveOk.fresh {nl np k0 : Nat} {old hs : List Hold} {j : Nat} {m : Int} (g : GiveOk nl np k0 old (.lot j m :: hs)) : ∀ m', Hold.lot j m' ∉ old := fun m' hm => by
  have := g.nd
  rw [List.filterMap_append, List.nodup_append] at this
  exact this.2.2 j (List.mem_filterMap.mpr ⟨_, hm, rfl⟩) j (List.mem_filterMap.mpr ⟨_, .head _, rfl⟩) rfl
theorem give_pc {fs : Fl} {k0 k1 : Nat} {p q : Pc} (h0 : fs.pcs[k0]? = some p) (h1 : fs.pcs[k1]? = some q) (_ : k1 ≠ k0) : (fs.give k0 (.pc k1)).pcs[k0]? = some { p with holds := p.holds ++ [.pc k1], cost := p.cost + q.cost } := by
  unfold Fl.give
  dsimp only
  rw [h1, h0]
  exact List.getElem?_set_self (by rw [List.length_set]; exact (List.getElem?_eq_some_iff.mp h0).1)
end PM

namespace WK
open PySem PySem.Spec PyProof.Rows L2
theorem v_isiFD {P : Program} {w : World} {K : PySem.W.Frag} {H : Hp} {Q : VK} {a : Addr} {o : Obj} {kvs : List (Key × V)} {T : String} (h : H a = some (.frz o (.dK kvs))) (hT : T ∈ kTypes) (k : Q (.bl (isT "dict" T)) H) : CallU P w K (.builtin "isinstance") [.ref a, .ty T] H Q := by
  have key : ∀ b ∈ kTypes, kitB "dict" b = some (isT "dict" b) := by decide +kernel
  exact .ofK (r := rIsi) (fun _ _ => call_isi) ⟨.ref a, .ty T, .type "dict", .type T, _, rfl, .ty T, .fDict h, kit_ty (key T hT), k⟩
end WK
namespace WK
open PySem PySem.Spec PyProof.Rows L2 PM
theorem lotKV_none {hs : List Hold} {j : Nat} (hn : ∀ m', Hold.lot j m' ∉ hs) : valV (lotKV hs) (.inl (j : Int)) = none := valV_none fun hm => by
  obtain ⟨x, hx, e⟩ := List.mem_map.mp hm
  unfold lotKV lotsOf at hx
  obtain ⟨y, hy, rfl⟩ := List.mem_map.mp hx
  obtain ⟨q, hq, eq⟩ := List.mem_filterMap.mp hy
  cases q with
  | pc c => cases eq
  | lot j' m' =>
    cases eq
    have : ((j' : Nat) : Int) = (j : Int) := Sum.inl.inj e
    have e2 : j' = j := by omega
    subst e2
    exact hn _ hq
end WK
namespace WK
open PySem PySem.Spec PyProof.Rows L2 PM
theorem src_lstV {K : PySem.W.Frag} {a : Addr} {xs : List V} : Src (Itl K a) (fun B _ => SqL K B a xs) xs (fun _ x y => x = y) :=
  ⟨_, _, walk_list (xs := xs), fun F B L H S g => S.sqB g, fun F B L i H x H' S g y hi => by
    obtain ⟨rfl, y⟩ := y
    exact ⟨x, B, y, Ex.refl _, S, rfl⟩⟩
theorem giveAll_frame (k0 : Nat) : ∀ (hs : List Hold) (fs : Fl), (fs.giveAll k0 hs).rs = fs.rs ∧ (fs.giveAll k0 hs).rates = fs.rates ∧ (fs.giveAll k0 hs).book = fs.book ∧ (fs.giveAll k0 hs).spent = fs.spent ∧ (fs.giveAll k0 hs).lost = fs.lost
  | [], fs => ⟨rfl, rfl, rfl, rfl, rfl⟩
  | h :: hs, fs => by
    have ih := giveAll_frame k0 hs (fs.give k0 h)
    have e : (fs.give k0 h).rs = fs.rs ∧ (fs.give k0 h).rates = fs.rates ∧ (fs.give k0 h).book = fs.book ∧ (fs.give k0 h).spent = fs.spent ∧ (fs.give k0 h).lost = fs.lost := by
      unfold Fl.give
      cases h with
      | lot j m =>
        dsimp only
        cases fs.lots[j]? <;> cases fs.pcs[k0]? <;> exact ⟨rfl, rfl, rfl, rfl, rfl⟩
      | pc k =>
        dsimp only
        cases fs.pcs[k]? <;> cases fs.pcs[k0]? <;> exact ⟨rfl, rfl, rfl, rfl, rfl⟩
    show ((fs.give k0 h).giveAll k0 hs).rs = _ ∧ _
    rw [ih.1, e.1]
    exact ⟨rfl, ih.2.1.trans e.2.1, ih.2.2.1.trans e.2.2.1, ih.2.2.2.1.trans e.2.2.2.1, ih.2.2.2.2.trans e.2.2.2.2⟩
end WK

namespace WK
open PySem PySem.Spec PyProof.Rows L2 PM
theorem src_lstO {α : Type} {K : PySem.W.Frag} {a : Addr} (g : α → V) (as : List α) : Src (Itl K a) (fun _ L => (a, HO.lst (as.map g)) ∈ L) as (fun _ x y => x = g y) := by
  have hl : (as.map g).length = as.length := List.length_map _
  refine ⟨_, _, (hl ▸ walk_list (xs := as.map g)), fun F B L H S gm => S.sqMem gm, fun F B L i H x H' S gm y hi => ?_⟩
  obtain ⟨rfl, y⟩ := y
  rw [List.getElem?_map] at y
  obtain ⟨q, hq, e⟩ := Option.map_eq_some_iff.mp y
  exact ⟨q, B, hq, Ex.refl _, S, e.symm⟩
/-- a comprehension of things: how many -/
theorem lcCount {α : Type} {J : It} {GB : Hp → Led → Prop} {as : List α} {R : Hp → V → α → Prop} {F : Ent} {B H1 : Hp} {L : Led} {σ : L2.St} (src : Src J GB as R) {g : TG} {tt : TT} {te : TE} {vs : List Nat} {Q : VK} (S : Ok F B L H1) (hGB : ∀ B1 D acc, Ex B B1 → GB B1 ((D, .lst acc) :: L)) (keep : α → Bool) (hz : as.length ≤ 100000)
    (hs : ∀ a x B1 D acc H1 (C : VK) (Cs : Hp → Prop), a ∈ as → Ex B B1 → Ok F B1 ((D, .lst acc) :: L) H1 → R B1 x a →
      (∀ y H4 B2, keep a = true → Ex B1 B2 → Ok F B2 ((D, .lst acc) :: L) H4 → C y H4) → (∀ H3 B2, keep a = false → Ex B1 B2 → Ok F B2 ((D, .lst acc) :: L) H3 → Cs H3) →
      g x (wipe σ vs) H1 fun σ2 H2 => wipe σ2 vs = wipe σ vs ∧ tt σ2 H2 fun b H3 => if b = true then te σ2 H3 C else Cs H3)
    (hd : ∀ D acc B1 H1, Ex B B1 → Ok F B1 ((D, .lst acc) :: L) H1 → acc.length = (as.filter keep).length → Q (.ref D) H1) : LcW g tt te vs σ Q J H1 := by
  refine lcD src S (fun i acc B1 L1 => L1 = L ∧ Ex B B1 ∧ acc.length = ((as.take i).filter keep).length) ⟨rfl, Ex.refl _, rfl⟩ ?_ ?_ ?_
  · rintro i acc B1 L1 D _ ⟨rfl, e, _⟩
    exact hGB B1 D acc e
  · rintro i a x acc B0 B1 L1 D H1 ha ⟨rfl, e, hd⟩ e1 S1 r
    have hm : a ∈ as := List.mem_of_getElem? ha
    have hlen : acc.length ≤ i := by
      have h2 := List.length_filter_le keep (as.take i)
      rw [List.length_take] at h2
      omega
    have hi : i < as.length := (List.getElem?_eq_some_iff.mp ha).1
    have et : as.take (i + 1) = as.take i ++ [a] := by rw [List.take_add_one, ha]; rfl
    refine hs a x B1 D acc H1 _ _ hm (e.trans e1) S1 r (fun y H4 B2 hk e2 S2 => ?_) (fun H3 B2 hk e2 S2 => ?_)
    · refine Acc.mk S2 (by rw [sizeLine_eq]; omega) ⟨rfl, (e.trans e1).trans e2, ?_⟩
      rw [et, List.filter_append, List.length_append, List.length_append]
      have : [a].filter keep = [a] := by simp [hk]
      rw [this, hd]
      rfl
    · refine Skp.mk S2 ⟨rfl, (e.trans e1).trans e2, ?_⟩
      rw [et, List.filter_append]
      have : [a].filter keep = [] := by simp [hk]
      rw [this, List.append_nil]
      exact hd
  · rintro acc B1 L1 D H1 ⟨rfl, e, hd'⟩ S1
    rw [List.take_length] at hd'
    exact hd D acc B1 H1 e S1 hd'
end WK
namespace WK
open PySem PySem.Spec PyProof.Rows L2
theorem call_int_blR {X : Cx} : CallR X (.type "int") (fun xs H Q => ∃ b, xs = [.bl b] ∧ Q (.int (if b = true then 1 else 0)) H) := by
  intro pins s σ H xs us Q I rs h
  obtain ⟨b, rfl, h⟩ := h
  cases rs with
  | cons r1 rs =>
    cases rs
    obtain rfl := r1
    exact PySem.call_int_bool ⟨.int _, H, I.tok _, ⟨_, rfl⟩, h⟩
/-- int(bool) -/
theorem v_intBl {P : Program} {w : World} {K : PySem.W.Frag} {H : Hp} {Q : VK} {b : Bool} (k : Q (.int (if b = true then 1 else 0)) H) : CallU P w K (.type "int") [.bl b] H Q :=
  .of (fun _ _ => call_int_blR) ⟨b, rfl, k⟩
end WK

namespace PM
open PySem L2 WK
/-- another piece in the place of one -/
def replPc (o n : Nat) : List Hold → List Hold
  | [] => []
  | .pc x :: t => if x = o then .pc n :: t else .pc x :: replPc o n t
  | .lot j m :: t => .lot j m :: replPc o n t
theorem lotsOf_repl (o n : Nat) : ∀ hs, lotsOf (replPc o n hs) = lotsOf hs
  | [] => rfl
  | .pc x :: t => by
    unfold replPc
    by_cases e : x = o
    · rw [if_pos e]; rfl
    · rw [if_neg e]
      show lotsOf (replPc o n t) = lotsOf t
      exact lotsOf_repl o n t
  | .lot j m :: t => by
    show (j, m) :: lotsOf (replPc o n t) = (j, m) :: lotsOf t
    rw [lotsOf_repl o n t]
/-- the first place -/
theorem pcsOf_repl (o n : Nat) : ∀ (hs : List Hold), o ∈ pcsOf hs → ∃ j, (pcsOf hs)[j]? = some o ∧ (∀ m, m < j → (pcsOf hs)[m]? ≠ some o) ∧ pcsOf (replPc o n hs) = (pcsOf hs).set j n
  | [], h => by cases h
  | .pc x :: t, h => by
    have e1 : pcsOf (.pc x :: t) = x :: pcsOf t := rfl
    unfold replPc
    by_cases e : x = o
    · rw [if_pos e, e1]
      subst e
      exact ⟨0, rfl, fun m hm => by omega, rfl⟩
    · rw [if_neg e, e1]
      rw [e1] at h
      rcases List.mem_cons.mp h with h | h
      · exact absurd h.symm e
      · obtain ⟨j, h1, h2, h3⟩ := pcsOf_repl o n t h
        refine ⟨j + 1, h1, fun m hm => ?_, ?_⟩
        · cases m with
          | zero => intro z; exact e (Option.some.inj z)
          | succ m => exact h2 m (by omega)
        · show x :: pcsOf (replPc o n t) = _
          rw [h3]
          rfl
  | .lot j m :: t, h => pcsOf_repl o n t h
theorem replPc_len (o n : Nat) : ∀ hs, (replPc o n hs).length = hs.length
  | [] => rfl
  | .pc x :: t => by
    unfold replPc
    by_cases e : x = o
    · rw [if_pos e]; rfl
    · rw [if_neg e, List.length_cons, List.length_cons, replPc_len o n t]
  | .lot j m :: t => by
    show (replPc o n t).length + 1 = t.length + 1
    rw [replPc_len o n t]
/-- a held piece is changed for another -/
def Fl.swap (fs : Fl) (k o n : Nat) (p q r : Pc) : Fl :=
  { fs with pcs := (((fs.pcs.set k { p with holds := replPc o n p.holds, cost := p.cost + (r.cost - q.cost), state := "made" }).set o { q with state := "bad", above := none }).set n { r with state := "within", above := some k }), book := fs.book ++ [.swap k o n] }
end PM

namespace WK
open PySem PySem.Spec PyProof.Rows L2 PM
section
variable {Pg : Program} {w : World} {K : PySem.W.Frag} {Q : VK} {F : Ent} {B H : Hp} {L : Led} {CF CL CI : Addr} {A : AFl} {P : APc} {k : Nat} {a : Addr}
abbrev APc.withHolds (P : APc) (hs : List Hold) : APc := { P with s := { P.s with holds := hs } }
end
end WK

namespace WK
open PySem PySem.Spec PyProof.Rows L2 PM
/-- a floor, its pieces' cells told apart -/
def FLg (CF CL : Addr) (A : AFl) (G : Led) : Led :=
  (A.f, .ins CF A.dx (WK.flF A)) :: (A.la, .lst (A.lots.map fun x => .ref x.a)) :: (A.pa, .lst (A.pcs.map fun P => .ref P.a)) :: (A.na, .lst A.nv) :: (A.lots.map (lotC CL) ++ G)
section
variable {Pg : Program} {w : World} {K : PySem.W.Frag} {Q : VK} {F : Ent} {B H : Hp} {L G : Led} {CF CL CI : Addr} {A : AFl} {P : APc} {x : ALot} {j k : Nat} {D : Ends} {σ : L2.St} {f : Str} {y : V}
theorem FL_g : FL CF CL CI A ++ L = FLg CF CL A (A.pcs.flatMap (pcC CI) ++ L) := by
  unfold FL FLg
  simp only [List.cons_append, List.append_assoc]
theorem Ok.ofG (S : Ok F B (FLg CF CL A (A.pcs.flatMap (pcC CI) ++ L)) H) : Ok F B (FL CF CL CI A ++ L) H := FL_g ▸ S
end
end WK
namespace PM
open PySem L2 WK
def stripLot (s : List Lt × Int) (x : Nat × Int) : List Lt × Int := match s.1[x.1]? with
  | some l => (s.1.set x.1 { l with left := l.left + x.2 }, s.2 + x.2 * l.price)
  | none => s
def stripPc (s : List Pc × Int) (k : Nat) : List Pc × Int := match s.1[k]? with
  | some q => (s.1.set k { q with state := "made", above := none }, s.2 + q.cost)
  | none => s
/-- a piece is taken apart -/
def Fl.strip (fs : Fl) (k : Nat) (p : Pc) : Fl :=
  { fs with lots := ((lotsOf p.holds).foldl stripLot (fs.lots, 0)).1, pcs := ((pcsOf p.holds).foldl stripPc (fs.pcs, ((lotsOf p.holds).foldl stripLot (fs.lots, 0)).2)).1.set k { p with cost := 0, holds := [], state := "stripped", own := 0 }, lost := fs.lost + (p.cost - ((pcsOf p.holds).foldl stripPc (fs.pcs, ((lotsOf p.holds).foldl stripLot (fs.lots, 0)).2)).2), book := fs.book ++ [.strip k] }
end PM

namespace WK
open PySem PySem.Spec PyProof.Rows L2 PM
/-! the cells of the law's own floor: the same pure floor, told by dicts and lists -/
structure MLot where
  a : Addr
  s : Lt
structure MPc where
  a : Addr
  h : Addr
  hv : List V
  s : Pc
structure AMl where
  w : Addr
  dn : Addr
  ds : Addr
  rt : V
  la : Addr
  pa : Addr
  ba : Addr
  bv : List V
  rs : List PRow
  rates : List Int
  lots : List MLot
  pcs : List MPc
  book : List Deed
  spent : Int
  lost : Int
def AMl.st (M : AMl) : Fl := ⟨M.rs, M.rates, M.lots.map (·.s), M.pcs.map (·.s), M.book, M.spent, M.lost⟩
def encHold : Hold → PyData
  | .lot j m => .tuple [.str "lot", .int j, .int m]
  | .pc k => .tuple [.str "piece", .int k, .int 1]
abbrev wKV (M : AMl) : List (Key × V) := [(.inr "needs", .ref M.dn), (.inr "steps", .ref M.ds), (.inr "rates", M.rt), (.inr "lots", .ref M.la), (.inr "pieces", .ref M.pa), (.inr "lost", .int M.lost), (.inr "paid", .int M.spent), (.inr "book", .ref M.ba)]
abbrev mpKV (P : MPc) : List (Key × V) := [(.inr "part", .str P.s.part), (.inr "state", .str P.s.state), (.inr "at", .int P.s.at_), (.inr "minutes", .int P.s.own), (.inr "holds", .ref P.h), (.inr "client", optI P.s.client)]
abbrev mlV (s : Lt) : List V := [.str s.part, .int s.left, .int s.price]
abbrev mLotC (x : MLot) : Addr × HO := (x.a, .lst (mlV x.s))
def mPcC (P : MPc) : Led := [(P.a, .dK (mpKV P)), (P.h, .lst P.hv)]
def ML (M : AMl) : Led :=
  (M.w, .dK (wKV M)) :: (M.la, .lst (M.lots.map fun x => .ref x.a)) :: (M.pa, .lst (M.pcs.map fun P => .ref P.a)) :: (M.ba, .lst M.bv) :: (M.lots.map mLotC ++ M.pcs.flatMap mPcC)
/-- what of it stays: needs and steps by names, the rates, the holds and the book as data -/
structure MB (K : PySem.W.Frag) (B : Hp) (M : AMl) : Prop where
  rates : Dp K B M.rt (.tuple (M.rates.map .int))
  book : DpAll K B M.bv (M.book.map encDeed)
  holds : ∀ P ∈ M.pcs, DpAll K B P.hv (P.s.holds.map encHold)
theorem MB.up {K : PySem.W.Frag} {B B' : Hp} {M : AMl} (e : Ex B B') (h : MB K B M) : MB K B' M := ⟨h.rates.up e, h.book.up e, fun P hP => (h.holds P hP).up e⟩
section
variable {F : Ent} {B H : Hp} {L : Led} {M : AMl} {P : MPc} {x : MLot} {k j : Nat}
theorem mW : (M.w, HO.dK (wKV M)) ∈ ML M ++ L := .head _
theorem mWl : (M.la, HO.lst (M.lots.map fun x => .ref x.a)) ∈ ML M ++ L := .tail _ (.head _)
theorem mWp : (M.pa, HO.lst (M.pcs.map fun P => .ref P.a)) ∈ ML M ++ L := .tail _ (.tail _ (.head _))
theorem mWb : (M.ba, HO.lst M.bv) ∈ ML M ++ L := .tail _ (.tail _ (.tail _ (.head _)))
theorem mWlot (h : M.lots[j]? = some x) : mLotC x ∈ ML M ++ L :=
  .tail _ (.tail _ (.tail _ (.tail _ (List.mem_append_left _ (List.mem_append_left _ (List.mem_map.mpr ⟨x, List.mem_of_getElem? h, rfl⟩))))))
theorem mWpc {q : Addr × HO} (h : M.pcs[k]? = some P) (hq : q ∈ mPcC P) : q ∈ ML M ++ L :=
  .tail _ (.tail _ (.tail _ (.tail _ (List.mem_append_left _ (List.mem_append_right _ (List.mem_flatMap.mpr ⟨P, List.mem_of_getElem? h, hq⟩))))))
end
end WK
namespace WK
open PySem PySem.Spec PyProof.Rows L2 PM
section
variable {Pg : Program} {w : World} {K : PySem.W.Frag} {F : Ent} {B H : Hp} {L : Led} {M : AMl} {P : MPc} {x : MLot} {k j : Nat} {f : Str} {y : V}
end
end WK
namespace WK
open PySem PySem.Spec PyProof.Rows L2 PM
section
variable {Pg : Program} {w : World} {K : PySem.W.Frag} {Q : VK} {F : Ent} {B H : Hp} {L : Led} {M : AMl}
end
end WK

namespace WK
open PySem PySem.Spec PyProof.Rows L2
section
variable {X : Cx}
end
section
variable {P : Program} {w : World} {K : PySem.W.Frag} {H B : Hp} {Q : VK} {F : Ent} {L : Led} {a b p : Addr} {xs : List V} {kvs more : List (Key × V)} {σ : L2.St}
theorem v_rep {i : Int} (S : Ok F B L H) (h : H a = some (.lst xs)) (h0 : 0 ≤ i) (h1 : i < 100000) (hz : xs.length ≤ 100) (k : ∀ r H', Ok F B ((r, .lst (List.replicate i.toNat xs).flatten) :: L) H' → Q (.ref r) H') : OpU P w K (binaryOp .Mult) (.ref a) (.int i) H Q := by
  refine .of (fun _ _ => op_rep) ⟨a, i, xs, rfl, rfl, h, by omega, by omega, ?_, fun r hr => k r _ (S.newL hr)⟩
  rw [sizeLine_eq]
  have h2 : i.toNat ≤ 100000 := by omega
  have := Nat.mul_le_mul hz h2
  omega
/-! dict displays -/
def DispQ (p : Addr) (Q : VK) (ps : List (V × V)) (H : Hp) : Prop := H p = some (.dK []) ∧ ∃ kvs : List (Key × V), ps = kvs.map (fun kv => (kV kv.1, kv.2)) ∧ kvs.length ≤ 15 ∧ Q (.ref p) (upd H p (.dK (mergeK [] kvs)))
theorem r_disp {trs : List (TE × TE)} (S : Ok F B L H) (k : ∀ p H1, Ok F B ((p, .dK []) :: L) H1 → tPairs trs σ H1 (DispQ p Q)) : tDisp trs σ H Q := fun p hp => k p _ (S.newL hp)
theorem r_pnil {QP : List (V × V) → Hp → Prop} (k : QP [] H) : tPairs [] σ H QP := k
theorem r_pcons {tk tv : TE} {trs : List (TE × TE)} {QP : List (V × V) → Hp → Prop} (k : tk σ H fun x H1 => tv σ H1 fun y H2 => tPairs trs σ H2 fun ps H3 => QP ((x, y) :: ps) H3) : tPairs ((tk, tv) :: trs) σ H QP := k
theorem dispQ {ps : List (V × V)} (n : Nat) (S : Ok F B L H) (h : L[n]? = some (p, .dK [])) (kvs : List (Key × V)) (e : ps = kvs.map (fun kv => (kV kv.1, kv.2))) (hl : kvs.length ≤ 15) (nd : (kvs.map (·.1)).Nodup) (k : ∀ H', Ok F B (L.set n (p, .dK kvs)) H' → Q (.ref p) H') : DispQ p Q ps H := by
  refine ⟨(S.own _ (List.mem_of_getElem? h)).1, kvs, e, hl, ?_⟩
  rw [merge_new (acc := []) nd]
  exact k _ (S.mutN n h)
end
end WK
namespace WK
open PySem PySem.Spec PyProof.Rows L2 PM
/-! the law's own floor: what of it stays -/
inductive ColKV (K : PySem.W.Frag) (B : Hp) (enc : PRow → PyData) : List (Key × V) → List PRow → Prop
  | nil : ColKV K B enc [] []
  | cons {v r kvs rs} : Dp K B v (enc r) → ColKV K B enc kvs rs → ColKV K B enc ((.inr r.name, v) :: kvs) (r :: rs)
abbrev encNs (r : PRow) : PyData := .tuple (r.needs.map encNeed)
abbrev encSs (r : PRow) : PyData := .tuple (r.steps.map encStep)
section
variable {K : PySem.W.Frag} {B B' : Hp} {enc : PRow → PyData} {kvs : List (Key × V)} {rs : List PRow}
theorem ColKV.up (e : Ex B B') (h : ColKV K B enc kvs rs) : ColKV K B' enc kvs rs := by
  induction h with
  | nil => exact .nil
  | cons h _ ih => exact .cons (h.up e) ih
theorem ColKV.keys (h : ColKV K B enc kvs rs) : kvs.map (·.1) = (rs.map (·.name)).map Sum.inr := by
  induction h with
  | nil => rfl
  | cons _ _ ih => simp only [List.map_cons, ih]
theorem ColKV.get {z : Str} {r : PRow} (h : ColKV K B enc kvs rs) (e : PM.rowOf rs z = some r) : ∃ v, valV kvs (.inr z) = some v ∧ Dp K B v (enc r) := by
  induction h with
  | nil => simp [PM.rowOf] at e
  | @cons v q kvs rs hv h ih =>
    unfold PM.rowOf at e ih
    by_cases hz : q.name = z
    · rw [List.find?_cons_of_pos (by simpa using hz)] at e
      cases e
      exact ⟨v, by unfold valV; rw [List.find?_cons_of_pos (by simp [hz])]; rfl, hv⟩
    · rw [List.find?_cons_of_neg (by simpa using hz)] at e
      obtain ⟨u, h1, h2⟩ := ih e
      exact ⟨u, by unfold valV at h1 ⊢; rw [List.find?_cons_of_neg (by simp [hz])]; exact h1, h2⟩
theorem ColKV.none {z : Str} (h : ColKV K B enc kvs rs) (e : PM.rowOf rs z = none) : valV kvs (.inr z) = none := by
  refine valV_none fun hm => ?_
  rw [h.keys] at hm
  obtain ⟨y, hy, e2⟩ := List.mem_map.mp hm
  obtain ⟨r, hr, rfl⟩ := List.mem_map.mp hy
  unfold PM.rowOf at e
  rw [List.find?_eq_none] at e
  have := e r hr
  rw [Sum.inr.inj e2] at this
  simp at this
theorem ColKV.some {z : Str} (h : ColKV K B enc kvs rs) : (valV kvs (.inr z)).isSome = (PM.rowOf rs z).isSome := by
  cases e : PM.rowOf rs z with
  | none => rw [h.none e]; rfl
  | some r => obtain ⟨v, hv, _⟩ := h.get e; rw [hv]; rfl
end
structure MS (K : PySem.W.Frag) (B : Hp) (M : AMl) : Prop where
  mb : MB K B M
  needs : ∃ kvs, B M.dn = some (.dK kvs) ∧ ColKV K B encNs kvs M.rs
  steps : ∃ kvs, B M.ds = some (.dK kvs) ∧ ColKV K B encSs kvs M.rs
theorem MS.up {K : PySem.W.Frag} {B B' : Hp} {M : AMl} (e : Ex B B') (h : MS K B M) : MS K B' M := by
  obtain ⟨h1, ⟨k1, a1, b1⟩, ⟨k2, a2, b2⟩⟩ := h
  exact ⟨h1.up e, ⟨k1, e _ _ a1, b1.up e⟩, ⟨k2, e _ _ a2, b2.up e⟩⟩
/-- the cells of the law's floor, read -/
def MH (H : Hp) (M : AMl) : Prop := ∀ c ∈ ML M, H c.1 = some c.2
section
variable {F : Ent} {B H : Hp} {L : Led} {M : AMl} {P : MPc} {x : MLot} {k j : Nat}
theorem MH.w (h : MH H M) : H M.w = some (.dK (wKV M)) := h _ (.head _)
theorem MH.la (h : MH H M) : H M.la = some (.lst (M.lots.map fun x => .ref x.a)) := h _ (.tail _ (.head _))
theorem MH.pa (h : MH H M) : H M.pa = some (.lst (M.pcs.map fun P => .ref P.a)) := h _ (.tail _ (.tail _ (.head _)))
theorem MH.ba (h : MH H M) : H M.ba = some (.lst M.bv) := h _ (.tail _ (.tail _ (.tail _ (.head _))))
theorem MH.lot (h : MH H M) (e : M.lots[j]? = some x) : H x.a = some (.lst (mlV x.s)) :=
  h (x.a, .lst (mlV x.s)) (.tail _ (.tail _ (.tail _ (.tail _ (List.mem_append_left _ (List.mem_map.mpr ⟨x, List.mem_of_getElem? e, rfl⟩))))))
theorem MH.pc (h : MH H M) (e : M.pcs[k]? = some P) : H P.a = some (.dK (mpKV P)) :=
  h (P.a, .dK (mpKV P)) (.tail _ (.tail _ (.tail _ (.tail _ (List.mem_append_right _ (List.mem_flatMap.mpr ⟨P, List.mem_of_getElem? e, .head _⟩))))))
theorem MH.kept {B0 : Hp} {H0 : Hp} (h : MH H0 M) (S : Ok ⟨B0, H0, []⟩ B L H) : MH H M := fun c hc => S.kept (h c hc)
theorem MS.hold {K : PySem.W.Frag} (h : MS K B M) (e : M.pcs[k]? = some P) : DpAll K B P.hv (P.s.holds.map encHold) := h.mb.holds P (List.mem_of_getElem? e)
theorem wk_needs : valV (wKV M) (.inr "needs") = some (.ref M.dn) := rfl
theorem wk_steps : valV (wKV M) (.inr "steps") = some (.ref M.ds) := rfl
theorem wk_rates : valV (wKV M) (.inr "rates") = some M.rt := rfl
theorem wk_lots : valV (wKV M) (.inr "lots") = some (.ref M.la) := rfl
theorem wk_pieces : valV (wKV M) (.inr "pieces") = some (.ref M.pa) := rfl
theorem wk_lost : valV (wKV M) (.inr "lost") = some (.int M.lost) := rfl
theorem wk_paid : valV (wKV M) (.inr "paid") = some (.int M.spent) := rfl
theorem wk_book : valV (wKV M) (.inr "book") = some (.ref M.ba) := rfl
theorem mk_part : valV (mpKV P) (.inr "part") = some (.str P.s.part) := rfl
theorem mk_state : valV (mpKV P) (.inr "state") = some (.str P.s.state) := rfl
theorem mk_at : valV (mpKV P) (.inr "at") = some (.int P.s.at_) := rfl
theorem mk_minutes : valV (mpKV P) (.inr "minutes") = some (.int P.s.own) := rfl
theorem mk_holds : valV (mpKV P) (.inr "holds") = some (.ref P.h) := rfl
theorem mk_client : valV (mpKV P) (.inr "client") = some (optI P.s.client) := rfl
end
end WK
namespace WK
open PySem PySem.Spec PyProof.Rows L2 PM
theorem rdAt {H : Hp} {a : Addr} {o : HO} (h : H a = some o) : Rd H a o := .inl h
section
variable {L : Led} {M : AMl} {P : MPc} {x : MLot} {k j : Nat}
theorem mWpcA (h : M.pcs[k]? = some P) : (P.a, HO.dK (mpKV P)) ∈ ML M ++ L := mWpc h (.head _)
theorem mWpcH (h : M.pcs[k]? = some P) : (P.h, HO.lst P.hv) ∈ ML M ++ L := mWpc h (.tail _ (.head _))
theorem mWlotA (h : M.lots[j]? = some x) : (x.a, HO.lst (mlV x.s)) ∈ ML M ++ L := mWlot h
end
end WK
namespace WK
open PySem PySem.Spec PyProof.Rows L2 PM
theorem Ok.sqKept {K : PySem.W.Frag} {B0 H0 B H : Hp} {L : Led} {a : Addr} {xs : List V} (S : Ok ⟨B0, H0, []⟩ B L H) (h : H0 a = some (.lst xs)) : SqL K H a xs := .inl (.inl (S.kept h))
theorem src_rng {n : Nat} : Src (Itr 0 n) (fun _ _ => True) (List.range n) (fun _ x i => x = .int ((i : Nat) : Int)) := by
  obtain ⟨G, Y, w, h1, h2⟩ := (src_range (lo := 0) (n := n)).ex
  refine ⟨G, Y, w, h1, fun F B L i H x H' S g y hi => ?_⟩
  obtain ⟨a, B', e, ex, S', r⟩ := h2 F B L i H x H' S g y hi
  exact ⟨a, B', e, ex, S', by rw [r, Int.zero_add]⟩
theorem rng_at {n i a : Nat} (h : (List.range n)[i]? = some a) : a = i ∧ i < n := by
  have h1 := (List.getElem?_eq_some_iff.mp h).1
  rw [List.length_range] at h1
  rw [List.getElem?_range h1] at h
  exact ⟨(Option.some.inj h).symm, h1⟩
end WK
namespace WK
open PySem PySem.Spec PyProof.Rows L2 PM
theorem sqAt {K : PySem.W.Frag} {H : Hp} {a : Addr} {xs : List V} (h : H a = some (.lst xs)) : SqL K H a xs := .inl (.inl h)
end WK

namespace WK
open PySem PySem.Spec PyProof.Rows L2 PM
section
variable {Pg : Program} {w : World} {K : PySem.W.Frag} {Q : VK} {F : Ent} {B H : Hp} {L : Led} {M : AMl} {P : MPc} {k j : Nat} {y : V}
end
end WK
namespace L2
open PySem PySem.Spec PyProof.Rows WK
theorem DpAll.set {K : PySem.W.Frag} {B : Hp} : ∀ {vs : List V} {ds : List PyData}, DpAll K B vs ds → ∀ (j : Nat) {v : V} {d : PyData}, Dp K B v d → DpAll K B (vs.set j v) (ds.set j d)
  | _, _, .nil, _, _, _, _ => .nil
  | _, _, .cons _ t, 0, _, _, h => .cons h t
  | _, _, .cons h0 t, j + 1, _, _, h => .cons h0 (DpAll.set t j h)
end L2
namespace WK
open PySem PySem.Spec PyProof.Rows L2 PM
end WK

namespace WK
open PySem PySem.Spec PyProof.Rows L2 PM
/-! a test cut off: what is known of it behind it -/
def tCutT (t : TT) : TT := fun σ H Q => ∃ R : Bool → Hp → Prop, t σ H R ∧ ∀ b H', R b H' → Q b H'
theorem v_neNilL {Pg : Program} {w : World} {K : PySem.W.Frag} {H : Hp} {Q : VK} {a b : Addr} {xs : List V} (h1 : SqL K H a xs) (h2 : SqL K H b []) (k : Q (.bl (!decide (xs.length = 0))) H) : OpU Pg w K (compareOp .NotEq) (.ref a) (.ref b) H Q := by
  refine v_neLen h1 h2 ?_ k
  by_cases h : xs = []
  · exact .inr ⟨h, rfl⟩
  · exact .inl fun z => h (List.eq_nil_of_length_eq_zero z)
end WK

/-! the deeds, as the law's own floor does them -/
namespace PM
open PySem L2 WK
inductive Ans where
  | told (d : PyData)
  | part (z : Str)
  | count
  | lacks (z : Str)
  | piece (z : Str)
def Ans.enc : Ans → PyData
  | .told d => .tuple [.str "told", d]
  | .part z => .tuple [.str "part", .str z]
  | .count => .tuple [.str "count", .int 0]
  | .lacks z => .tuple [.str "lacks", .str z]
  | .piece z => .tuple [.str "piece", .str z]
def Ans.isTold : Ans → Bool
  | .told _ => true
  | _ => false
def Fl.stepAt (fs : Fl) (p : Pc) : Int × Int := match PM.rowOf fs.rs p.part with
  | some r => r.steps.getD p.at_.toNat (0, 0)
  | none => (0, 0)
def Fl.nSteps (fs : Fl) (p : Pc) : Nat := match PM.rowOf fs.rs p.part with
  | some r => r.steps.length
  | none => 0
def Fl.rateOf (fs : Fl) (m : Int) : Int := fs.rates.getD m.toNat 0
def Fl.lacking (fs : Fl) (needs : List (Str × Int)) : Option Str := (needs.find? fun x => (fs.taken x.1 x.2).isNone).map (·.1)
def Fl.takes (fs : Fl) (needs : List (Str × Int)) : List (List Hold) := needs.map fun x => (fs.taken x.1 x.2).getD []
def Fl.pcAt (fs : Fl) (k : Int) : Option Pc := if 0 ≤ k then fs.pcs[k.toNat]? else none
def Fl.mBuy (fs : Fl) (z : Str) (m pr : Int) : Ans × Fl :=
  if isBought fs.rs z = true then (if (1 ≤ m ∧ m ≤ 999) ∧ (0 ≤ pr ∧ pr ≤ 9999) then (.told (.int fs.lots.length), fs.buy z m pr) else (.count, fs)) else (.part z, fs)
def Fl.mBegin (fs : Fl) (z : Str) : Ans × Fl := match PM.rowOf fs.rs z with
  | none => (.part z, fs)
  | some r => if (r.needs.isEmpty && r.steps.isEmpty) = true then (.part z, fs) else match fs.lacking r.needs with
    | some y => (.lacks y, fs)
    | none => (.told (.int fs.pcs.length), fs.begin_ z r.steps.isEmpty (fs.takes r.needs).flatten)
def Fl.mSwap (fs : Fl) (k : Nat) (p : Pc) (o n : Int) : Ans × Fl :=
  if 0 ≤ o ∧ o.toNat ∈ pcsOf p.holds then (match fs.pcAt n with
    | none => (.piece "", fs)
    | some r => if r.state = "stock" then (match fs.pcs[o.toNat]? with
      | some q => if r.part = q.part then (.told .none, fs.swap k o.toNat n.toNat p q r) else (.part r.part, fs)
      | none => (.count, fs)) else (.piece r.state, fs))
  else (.piece "", fs)
/-- a deed of a piece in a state in which it can be -/
def Fl.pDone (fs : Fl) (k : Nat) (p : Pc) : Deed → Ans × Fl
  | .work _ => (.told (.int (fs.stepAt p).2), fs.work k p ((fs.stepAt p).2 * fs.rateOf (fs.stepAt p).1) (fs.nSteps p))
  | .test _ g => (.told .none, fs.put k { p with state := if g = true then "stock" else "bad" } (.test k g))
  | .rework _ a => if 0 ≤ a ∧ a < fs.nSteps p then (.told .none, fs.put k { p with state := "making", at_ := a } (.rework k a)) else (.count, fs)
  | .swap _ o n => fs.mSwap k p o n
  | .scrap _ => (.told .none, fs.put k { p with state := "scrap" } (.scrap k))
  | .strip _ => (.told .none, fs.strip k p)
  | .sell _ c => if 0 ≤ c ∧ c ≤ 99 then (.told .none, fs.put k { p with state := "sold", client := some c } (.sell k c)) else (.count, fs)
  | .back _ => (.told .none, fs.put k { p with state := "made", client := none } (.back k))
  | _ => (.count, fs)
def Fl.onPc (fs : Fl) (k : Int) (ss : List Str) (f : Pc → Ans × Fl) : Ans × Fl := match fs.pcAt k with
  | none => (.piece "", fs)
  | some p => if p.state ∈ ss then f p else (.piece p.state, fs)
def Deed.states : Deed → List Str
  | .work _ => ["making"]
  | .test _ _ => ["made", "stock"]
  | .sell _ _ => ["stock"]
  | .back _ => ["sold"]
  | .scrap _ => ["making", "made", "bad", "stock"]
  | _ => ["bad"]
def Fl.mDone (fs : Fl) : Deed → Ans × Fl
  | .buy z m pr => fs.mBuy z m pr
  | .begin_ z => fs.mBegin z
  | .work k => fs.onPc k ["making"] fun p => fs.pDone k.toNat p (.work k)
  | .test k g => fs.onPc k ["made", "stock"] fun p => fs.pDone k.toNat p (.test k g)
  | .rework k a => fs.onPc k ["bad"] fun p => fs.pDone k.toNat p (.rework k a)
  | .swap k o n => fs.onPc k ["bad"] fun p => fs.pDone k.toNat p (.swap k o n)
  | .scrap k => fs.onPc k ["making", "made", "bad", "stock"] fun p => fs.pDone k.toNat p (.scrap k)
  | .strip k => fs.onPc k ["bad"] fun p => fs.pDone k.toNat p (.strip k)
  | .sell k c => fs.onPc k ["stock"] fun p => fs.pDone k.toNat p (.sell k c)
  | .back k => fs.onPc k ["sold"] fun p => fs.pDone k.toNat p (.back k)
/-! what always holds of a floor -/
def Fl.price (fs : Fl) (j : Nat) : Int := ((fs.lots[j]?).map (·.price)).getD 0
def Fl.pcost (fs : Fl) (k : Nat) : Int := ((fs.pcs[k]?).map (·.cost)).getD 0
def Fl.holdCost (fs : Fl) : Hold → Int
  | .lot j m => m * fs.price j
  | .pc k => fs.pcost k
def topCost (p : Pc) : Int := if p.state = "within" then 0 else p.cost
def lotWorth (x : Lt) : Int := x.left * x.price
def Fl.worth (fs : Fl) : Int := (fs.lots.map lotWorth).sum + (fs.pcs.map topCost).sum + fs.lost
abbrev stList : List Str := ["making", "made", "bad", "stock", "within", "sold", "scrap", "stripped"]
structure PcOk (fs : Fl) (k : Nat) (p : Pc) : Prop where
  row : ∃ r, PM.rowOf fs.rs p.part = some r ∧ (r.needs.isEmpty && r.steps.isEmpty) = false ∧ 0 ≤ p.at_ ∧ p.at_ ≤ r.steps.length ∧ ∀ k' ∈ pcsOf p.holds, ∀ q, fs.pcs[k']? = some q → q.part ∈ r.needs.map (·.1)
  st : p.state ∈ stList
  up : p.above = none ↔ p.state ≠ "within"
  held : ∀ k' ∈ pcsOf p.holds, ∃ q, fs.pcs[k']? = some q ∧ q.above = some k
  upper : ∀ k', p.above = some k' → ∃ q, fs.pcs[k']? = some q ∧ k ∈ pcsOf q.holds
  nd : (pcsOf p.holds).Nodup
  ndl : ((lotsOf p.holds).map (·.1)).Nodup
  lots : ∀ x ∈ lotsOf p.holds, x.1 < fs.lots.length ∧ 0 < x.2 ∧ x.2 ≤ 9
  cost : p.cost = p.own + (p.holds.map fs.holdCost).sum
  len : p.holds.length ≤ 200
  own : 0 ≤ p.own
structure FlI (fs : Fl) : Prop where
  good : GoodBook fs.rs
  six : fs.rates.length = 6
  rate : ∀ x ∈ fs.rates, 0 ≤ x ∧ x ≤ 99
  pc : ∀ (k : Nat) (p : Pc), fs.pcs[k]? = some p → PcOk fs k p
  lot : ∀ (j : Nat) (x : Lt), fs.lots[j]? = some x → 0 ≤ x.left ∧ 0 ≤ x.price ∧ x.price ≤ 9999 ∧ isBought fs.rs x.part = true
  money : fs.spent = fs.worth
  few : fs.lots.length + fs.pcs.length ≤ fs.book.length
/-- a piece that is making has steps left -/
def MakOk (fs : Fl) (k : Nat) (p : Pc) : Prop := p.state = "making" → p.at_ < fs.nSteps p
structure FlOk (fs : Fl) : Prop where
  i : FlI fs
  mak : ∀ (k : Nat) (p : Pc), fs.pcs[k]? = some p → MakOk fs k p
theorem FlI.new {rs : List PRow} {rates : List Int} (G : GoodBook rs) (h6 : rates.length = 6) (hr : ∀ x ∈ rates, 0 ≤ x ∧ x ≤ 99) : FlI (Fl.new rs rates) :=
  ⟨G, h6, hr, fun k p h => by simp [Fl.new] at h, fun j x h => by simp [Fl.new] at h, rfl, Nat.le_refl _⟩
theorem FlOk.new {rs : List PRow} {rates : List Int} (G : GoodBook rs) (h6 : rates.length = 6) (hr : ∀ x ∈ rates, 0 ≤ x ∧ x ≤ 99) : FlOk (Fl.new rs rates) :=
  ⟨FlI.new G h6 hr, fun k p h => by simp [Fl.new] at h⟩
/-! sums -/
theorem sum_set {α : Type} (f : α → Int) {l : List α} {k : Nat} {x y : α} (h : l[k]? = some x) : ((l.set k y).map f).sum = (l.map f).sum - f x + f y := by
  obtain ⟨l1, l2, hl, _, hs⟩ := at_split h
  rw [hs y, hl]
  simp only [List.map_append, List.map_cons, List.sum_append, List.sum_cons]
  omega
theorem hold_sum (fs : Fl) : ∀ hs : List Hold, (hs.map fs.holdCost).sum = ((lotsOf hs).map fun x => x.2 * fs.price x.1).sum + ((pcsOf hs).map fs.pcost).sum
  | [] => rfl
  | .lot j m :: t => by
    show m * fs.price j + (t.map fs.holdCost).sum = (m * fs.price j + ((lotsOf t).map _).sum) + ((pcsOf t).map _).sum
    rw [hold_sum fs t]; omega
  | .pc k :: t => by
    show fs.pcost k + (t.map fs.holdCost).sum = ((lotsOf t).map _).sum + (fs.pcost k + ((pcsOf t).map _).sum)
    rw [hold_sum fs t]; omega
theorem mem_pcsOf {hs : List Hold} {k : Nat} : k ∈ pcsOf hs ↔ Hold.pc k ∈ hs := by
  unfold pcsOf
  rw [List.mem_filterMap]
  constructor
  · rintro ⟨h, hm, e⟩
    cases h with
    | lot j m => cases e
    | pc k' => cases e; exact hm
  · exact fun h => ⟨_, h, rfl⟩
theorem mem_lotsOf {hs : List Hold} {x : Nat × Int} : x ∈ lotsOf hs ↔ Hold.lot x.1 x.2 ∈ hs := by
  unfold lotsOf
  rw [List.mem_filterMap]
  constructor
  · rintro ⟨h, hm, e⟩
    cases h with
    | lot j m => cases e; exact hm
    | pc k' => cases e
  · exact fun h => ⟨_, h, rfl⟩
theorem holdCost_congr {fs fs' : Fl} {hs : List Hold} (hl : ∀ x ∈ lotsOf hs, fs'.price x.1 = fs.price x.1) (hp : ∀ k ∈ pcsOf hs, fs'.pcost k = fs.pcost k) : hs.map fs'.holdCost = hs.map fs.holdCost := by
  refine List.map_congr_left fun h hh => ?_
  cases h with
  | lot j m => show m * _ = m * _; rw [hl (j, m) (mem_lotsOf.mpr hh)]
  | pc k => exact hp k (mem_pcsOf.mpr hh)
/-- one piece that is within none becomes another, which holds the same -/
theorem FlI.upd1 {fs : Fl} (I : FlI fs) {k : Nat} {p p' : Pc} (hp : fs.pcs[k]? = some p) (hw : p.state ≠ "within") (e1 : p'.part = p.part) (e2 : p'.holds = p.holds) (e3 : p'.above = p.above) (hs : p'.state ∈ stList) (hw' : p'.state ≠ "within")
    (hc : p'.cost - p'.own = p.cost - p.own) (ho : 0 ≤ p'.own) (ha : 0 ≤ p'.at_ ∧ p'.at_ ≤ fs.nSteps p) {sp : Int} {bk : List Deed} (hsp : sp - fs.spent = p'.cost - p.cost) (hb : fs.book.length ≤ bk.length) : FlI { fs with pcs := fs.pcs.set k p', spent := sp, book := bk } := by
  have O := I.pc k p hp
  have hk := (List.getElem?_eq_some_iff.mp hp).1
  have hab : p.above = none := O.up.mpr hw
  have look : ∀ (j : Nat), (fs.pcs.set k p')[j]? = if j = k then some p' else fs.pcs[j]? := fun j => by
    by_cases h : j = k
    · subst h; rw [List.getElem?_set_self hk, if_pos rfl]
    · rw [List.getElem?_set_ne (Ne.symm h), if_neg h]
  -- nobody holds it
  have nobody : ∀ (j : Nat) (q : Pc), fs.pcs[j]? = some q → k ∉ pcsOf q.holds := fun j q hq hm => by
    obtain ⟨q', h1, h2⟩ := (I.pc j q hq).held k hm
    rw [hp] at h1
    cases h1
    rw [hab] at h2
    cases h2
  have pcost : ∀ (j : Nat), j ≠ k → Fl.pcost { fs with pcs := fs.pcs.set k p', spent := sp, book := bk } j = fs.pcost j := fun j hj => by
    unfold Fl.pcost
    dsimp only
    rw [look, if_neg hj]
  have main : ∀ (j : Nat) (q q' : Pc), fs.pcs[j]? = some q → q'.part = q.part → q'.holds = q.holds → q'.above = q.above → q'.state ∈ stList → (q'.state ≠ "within" ↔ q.state ≠ "within") → q'.cost - q'.own = q.cost - q.own → 0 ≤ q'.own → (0 ≤ q'.at_ ∧ q'.at_ ≤ fs.nSteps q) → PcOk { fs with pcs := fs.pcs.set k p', spent := sp, book := bk } j q' := by
    intro j q q' hq f1 f2 f3 f4 f5 f6 f7 f8
    have Oq := I.pc j q hq
    have nk : ∀ k' ∈ pcsOf q.holds, k' ≠ k := fun k' hk' z => nobody j q hq (z ▸ hk')
    refine ⟨?_, f4, ?_, ?_, ?_, ?_, ?_, ?_, ?_, ?_, f7⟩
    · obtain ⟨r, r1, r2, r3, r4, r5⟩ := Oq.row
      have hn : fs.nSteps q = r.steps.length := by unfold Fl.nSteps; rw [r1]
      refine ⟨r, by rw [f1]; exact r1, r2, f8.1, by rw [← hn]; exact f8.2, fun k' hk' q2 hq2 => ?_⟩
      rw [f2] at hk'
      rw [show (({ fs with pcs := fs.pcs.set k p', spent := sp, book := bk } : Fl).pcs)[k']? = _ from look k', if_neg (nk k' hk')] at hq2
      exact r5 k' hk' q2 hq2
    · rw [f3, f5]; exact Oq.up
    · intro k' hk'
      rw [f2] at hk'
      obtain ⟨q2, h1, h2⟩ := Oq.held k' hk'
      exact ⟨q2, by show (fs.pcs.set k p')[k']? = _; rw [look, if_neg (nk k' hk')]; exact h1, h2⟩
    · intro k' hk'
      rw [f3] at hk'
      obtain ⟨q2, h1, h2⟩ := Oq.upper k' hk'
      by_cases e : k' = k
      · subst e
        rw [hp] at h1
        cases h1
        exact ⟨p', by show (fs.pcs.set k' p')[k']? = _; rw [look, if_pos rfl], by rw [e2]; exact h2⟩
      · exact ⟨q2, by show (fs.pcs.set k p')[k']? = _; rw [look, if_neg e]; exact h1, h2⟩
    · rw [f2]; exact Oq.nd
    · rw [f2]; exact Oq.ndl
    · rw [f2]; exact Oq.lots
    · rw [f2, holdCost_congr (fs := fs) (fs' := { fs with pcs := fs.pcs.set k p', spent := sp, book := bk }) (fun _ _ => rfl) (fun k' hk' => pcost k' (nk k' hk'))]
      have := Oq.cost
      omega
    · rw [f2]; exact Oq.len
  refine ⟨I.good, I.six, I.rate, fun j q hq => ?_, I.lot, ?_, ?_⟩
  · rw [show (({ fs with pcs := fs.pcs.set k p', spent := sp, book := bk } : Fl).pcs)[j]? = _ from look j] at hq
    by_cases e : j = k
    · subst e
      rw [if_pos rfl] at hq
      cases hq
      exact main j p _ hp e1 e2 e3 hs ⟨fun _ => hw, fun _ => hw'⟩ hc ho ha
    · rw [if_neg e] at hq
      have Oq := I.pc j q hq
      obtain ⟨r, r1, r2, r3, r4, r5⟩ := Oq.row
      exact main j q q hq rfl rfl rfl Oq.st Iff.rfl rfl Oq.own ⟨r3, by unfold Fl.nSteps; rw [r1]; exact r4⟩
  · have hm := I.money
    unfold Fl.worth at hm ⊢
    dsimp only
    rw [sum_set topCost hp]
    unfold topCost at hm ⊢
    rw [if_neg hw, if_neg hw']
    omega
  · show fs.lots.length + (fs.pcs.set k p').length ≤ bk.length
    rw [List.length_set]
    have := I.few
    omega
end PM

namespace PM
open PySem L2 WK
/-- a piece whose holds stay as they are -/
theorem PcOk.keep {fs fs' : Fl} {j : Nat} {q q' : Pc} (O : PcOk fs j q) (hrs : fs'.rs = fs.rs) (hl : fs'.lots.length = fs.lots.length) (hpr : ∀ i, fs'.price i = fs.price i)
    (e1 : q'.part = q.part) (e2 : q'.holds = q.holds) (e3 : q'.at_ = q.at_) (e4 : q'.cost = q.cost) (e5 : q'.own = q.own) (st : q'.state ∈ stList) (up : q'.above = none ↔ q'.state ≠ "within")
    (hh : ∀ k' ∈ pcsOf q.holds, ∀ q2, fs.pcs[k']? = some q2 → q2.above = some j → ∃ q2', fs'.pcs[k']? = some q2' ∧ q2'.part = q2.part ∧ q2'.above = some j ∧ q2'.cost = q2.cost)
    (upper : ∀ k', q'.above = some k' → ∃ q2, fs'.pcs[k']? = some q2 ∧ j ∈ pcsOf q2.holds) : PcOk fs' j q' := by
  refine ⟨?_, st, up, ?_, upper, by rw [e2]; exact O.nd, by rw [e2]; exact O.ndl, by rw [e2, hl]; exact O.lots, ?_, by rw [e2]; exact O.len, by rw [e5]; exact O.own⟩
  · obtain ⟨r, r1, r2, r3, r4, r5⟩ := O.row
    refine ⟨r, by rw [hrs, e1]; exact r1, r2, by rw [e3]; exact r3, by rw [e3]; exact r4, fun k' hk' q3 hq3 => ?_⟩
    rw [e2] at hk'
    obtain ⟨q2, h1, h2⟩ := O.held k' hk'
    obtain ⟨q2', g1, g2, _, _⟩ := hh k' hk' q2 h1 h2
    rw [g1] at hq3
    cases hq3
    rw [g2]
    exact r5 k' hk' q2 h1
  · intro k' hk'
    rw [e2] at hk'
    obtain ⟨q2, h1, h2⟩ := O.held k' hk'
    obtain ⟨q2', g1, _, g3, _⟩ := hh k' hk' q2 h1 h2
    exact ⟨q2', g1, g3⟩
  · rw [e2, e4, e5, holdCost_congr (fs := fs) (fun x _ => hpr x.1) (fun k' hk' => ?_)]
    · exact O.cost
    · obtain ⟨q2, h1, h2⟩ := O.held k' hk'
      obtain ⟨q2', g1, _, _, g4⟩ := hh k' hk' q2 h1 h2
      unfold Fl.pcost
      rw [g1, h1]
      exact g4
theorem FlI.above_none {fs : Fl} (I : FlI fs) {k : Nat} {p : Pc} (hp : fs.pcs[k]? = some p) (hw : p.state ≠ "within") : p.above = none := (I.pc k p hp).up.mpr hw
theorem FlI.within {fs : Fl} (I : FlI fs) {k j : Nat} {p : Pc} (hp : fs.pcs[k]? = some p) (h : p.above = some j) : p.state = "within" := by
  by_cases hs : p.state = "within"
  · exact hs
  · rw [I.above_none hp hs] at h
    cases h
/-- what is within none, nobody holds -/
theorem FlI.nobody {fs : Fl} (I : FlI fs) {k j : Nat} {p q : Pc} (hp : fs.pcs[k]? = some p) (hw : p.state ≠ "within") (hq : fs.pcs[j]? = some q) : k ∉ pcsOf q.holds := fun hm => by
  obtain ⟨q', h1, h2⟩ := (I.pc j q hq).held k hm
  rw [hp] at h1
  cases h1
  rw [I.above_none hp hw] at h2
  cases h2
theorem mem_set_nd {α : Type} [DecidableEq α] {l : List α} {j : Nat} {o n : α} (nd : l.Nodup) (hj : l[j]? = some o) (x : α) : x ∈ l.set j n ↔ x = n ∨ (x ∈ l ∧ x ≠ o) := by
  obtain ⟨l1, l2, hl, _, hs⟩ := at_split hj
  rw [hs n, hl]
  rw [hl] at nd
  have h1 := List.nodup_append.mp nd
  have h2 := List.nodup_cons.mp h1.2.1
  constructor
  · intro h
    rcases List.mem_append.mp h with h | h
    · exact .inr ⟨List.mem_append_left _ h, fun z => h1.2.2 x h o (.head _) z⟩
    · rcases List.mem_cons.mp h with h | h
      · exact .inl h
      · exact .inr ⟨List.mem_append_right _ (.tail _ h), fun z => h2.1 (z ▸ h)⟩
  · rintro (rfl | ⟨h, ne⟩)
    · exact List.mem_append_right _ (.head _)
    · rcases List.mem_append.mp h with h | h
      · exact List.mem_append_left _ h
      · rcases List.mem_cons.mp h with h | h
        · exact absurd h ne
        · exact List.mem_append_right _ (.tail _ h)
theorem nodup_set {α : Type} [DecidableEq α] {l : List α} {j : Nat} {o n : α} (nd : l.Nodup) (hj : l[j]? = some o) (hn : n ∉ l) : (l.set j n).Nodup := by
  obtain ⟨l1, l2, hl, _, hs⟩ := at_split hj
  rw [hs n]
  rw [hl] at nd hn
  have h1 := List.nodup_append.mp nd
  have h2 := List.nodup_cons.mp h1.2.1
  refine List.nodup_append.mpr ⟨h1.1, List.nodup_cons.mpr ⟨fun h => hn (List.mem_append_right _ (.tail _ h)), h2.2⟩, fun a ha b hb z => ?_⟩
  rcases List.mem_cons.mp hb with h | h
  · exact hn (List.mem_append_left _ (by rw [← h, ← z]; exact ha))
  · exact h1.2.2 a ha b (.tail _ h) z
theorem bad_ne : ("bad" : Str) ≠ "within" := by decide
theorem stock_ne : ("stock" : Str) ≠ "within" := by decide
theorem made_ne : ("made" : Str) ≠ "within" := by decide
theorem up_w {k : Nat} : (some k : Option Nat) = none ↔ ("within" : Str) ≠ "within" := ⟨(fun z => nomatch z), fun z => absurd rfl z⟩
theorem in_within : ("within" : Str) ∈ stList := by decide
theorem in_bad : ("bad" : Str) ∈ stList := by decide
theorem in_made : ("made" : Str) ∈ stList := by decide
theorem in_stripped : ("stripped" : Str) ∈ stList := by decide
theorem FlI.swap {fs : Fl} (I : FlI fs) {k o n : Nat} {p q r : Pc} (hp : fs.pcs[k]? = some p) (hq : fs.pcs[o]? = some q) (hr : fs.pcs[n]? = some r) (hps : p.state = "bad") (hrs : r.state = "stock") (hm : o ∈ pcsOf p.holds) (hpt : r.part = q.part) : FlI (fs.swap k o n p q r) := by
  have hpw : p.state ≠ "within" := by rw [hps]; decide
  have hrw' : r.state ≠ "within" := by rw [hrs]; decide
  have hqa : q.above = some k := by
    obtain ⟨q', h1, h2⟩ := (I.pc k p hp).held o hm
    rw [hq] at h1
    cases h1
    exact h2
  have hqw := I.within hq hqa
  have hko : k ≠ o := fun z => by subst z; rw [hp] at hq; cases hq; exact hpw hqw
  have hkn : k ≠ n := fun z => by subst z; rw [hp] at hr; cases hr; rw [hps] at hrs; exact absurd hrs (by decide)
  have hon : o ≠ n := fun z => by subst z; rw [hq] at hr; cases hr; exact hrw' hqw
  have lk := (List.getElem?_eq_some_iff.mp hp).1
  have lo := (List.getElem?_eq_some_iff.mp hq).1
  have ln := (List.getElem?_eq_some_iff.mp hr).1
  obtain ⟨s, s1, s2, s3⟩ := pcsOf_repl o n p.holds hm
  have O := I.pc k p hp
  have hnh : n ∉ pcsOf p.holds := I.nobody hr hrw' hp
  have mrep : ∀ x, x ∈ pcsOf (replPc o n p.holds) ↔ x = n ∨ (x ∈ pcsOf p.holds ∧ x ≠ o) := fun x => by rw [s3]; exact mem_set_nd O.nd s1 x
  let p' : Pc := { p with holds := replPc o n p.holds, cost := p.cost + (r.cost - q.cost), state := "made" }
  let q' : Pc := { q with state := "bad", above := none }
  let r' : Pc := { r with state := "within", above := some k }
  have look : ∀ i, (fs.swap k o n p q r).pcs[i]? = if i = n then some r' else if i = o then some q' else if i = k then some p' else fs.pcs[i]? := fun i => by
    show (((fs.pcs.set k p').set o q').set n r')[i]? = _
    by_cases h1 : i = n
    · subst h1; rw [List.getElem?_set_self (by rw [List.length_set, List.length_set]; exact ln), if_pos rfl]
    · rw [List.getElem?_set_ne (Ne.symm h1), if_neg h1]
      by_cases h2 : i = o
      · subst h2; rw [List.getElem?_set_self (by rw [List.length_set]; exact lo), if_pos rfl]
      · rw [List.getElem?_set_ne (Ne.symm h2), if_neg h2]
        by_cases h3 : i = k
        · subst h3; rw [List.getElem?_set_self lk, if_pos rfl]
        · rw [List.getElem?_set_ne (Ne.symm h3), if_neg h3]
  have lookN : (fs.swap k o n p q r).pcs[n]? = some r' := by rw [look, if_pos rfl]
  have lookO : (fs.swap k o n p q r).pcs[o]? = some q' := by rw [look, if_neg hon, if_pos rfl]
  have lookK : (fs.swap k o n p q r).pcs[k]? = some p' := by rw [look, if_neg hkn, if_neg hko, if_pos rfl]
  have other : ∀ i, i ≠ n → i ≠ o → i ≠ k → (fs.swap k o n p q r).pcs[i]? = fs.pcs[i]? := fun i h1 h2 h3 => by rw [look, if_neg h1, if_neg h2, if_neg h3]
  have pcost : ∀ i, i ≠ k → (fs.swap k o n p q r).pcost i = fs.pcost i := fun i hi => by
    unfold Fl.pcost
    by_cases h1 : i = n
    · subst h1; rw [lookN, hr]; rfl
    · by_cases h2 : i = o
      · subst h2; rw [lookO, hq]; rfl
      · rw [other i h1 h2 hi]
  -- what others hold
  have hold : ∀ (j : Nat) (a : Pc), fs.pcs[j]? = some a → j ≠ k → ∀ k' ∈ pcsOf a.holds, k' ≠ n ∧ k' ≠ o ∧ k' ≠ k := fun j a ha hj k' hk' =>
    ⟨fun z => I.nobody hr hrw' ha (z ▸ hk'), fun z => by
      obtain ⟨q2, h1, h2⟩ := (I.pc j a ha).held k' hk'
      subst z
      rw [hq] at h1
      cases h1
      rw [hqa] at h2
      exact hj (Option.some.inj h2).symm, fun z => I.nobody hp hpw ha (z ▸ hk')⟩
  have keep : ∀ (j : Nat) (a a' : Pc), fs.pcs[j]? = some a → j ≠ k → a'.part = a.part → a'.holds = a.holds → a'.at_ = a.at_ → a'.cost = a.cost → a'.own = a.own → a'.state ∈ stList → (a'.above = none ↔ a'.state ≠ "within") →
      (∀ k', a'.above = some k' → ∃ q2, (fs.swap k o n p q r).pcs[k']? = some q2 ∧ j ∈ pcsOf q2.holds) → PcOk (fs.swap k o n p q r) j a' := fun j a a' ha hj g1 g2 g3 g4 g5 g6 g7 g8 =>
    (I.pc j a ha).keep rfl rfl (fun _ => rfl) g1 g2 g3 g4 g5 g6 g7 (fun k' hk' q2 h1 h2 => by
      obtain ⟨m1, m2, m3⟩ := hold j a ha hj k' hk'
      exact ⟨q2, by rw [other k' m1 m2 m3]; exact h1, rfl, h2, rfl⟩) g8
  refine ⟨I.good, I.six, I.rate, fun j a ha => ?_, I.lot, ?_, ?_⟩
  · by_cases h1 : j = n
    · subst h1
      rw [lookN] at ha
      cases ha
      refine keep j r r' hr (Ne.symm hkn) rfl rfl rfl rfl rfl in_within up_w fun k' hk' => ?_
      cases hk'
      exact ⟨p', lookK, (mrep _).mpr (.inl rfl)⟩
    · by_cases h2 : j = o
      · subst h2
        rw [lookO] at ha
        cases ha
        exact keep j q q' hq (Ne.symm hko) rfl rfl rfl rfl rfl in_bad ⟨fun _ => bad_ne, fun _ => rfl⟩ fun k' hk' => by cases hk'
      · by_cases h3 : j = k
        · subst h3
          rw [lookK] at ha
          cases ha
          have oth : ∀ x ∈ pcsOf p.holds, x ≠ o → (fs.swap j o n p q r).pcs[x]? = fs.pcs[x]? := fun x hx hxo => other x (fun z => hnh (z ▸ hx)) hxo (fun z => I.nobody hp hpw hp (z ▸ hx))
          refine ⟨?_, in_made, ⟨fun _ => made_ne, fun _ => (show p.above = none from I.above_none hp hpw)⟩, fun x hx => ?_, fun k' hk' => ?_, ?_, ?_, ?_, ?_, ?_, O.own⟩
          · obtain ⟨rr, r1, r2, r3, r4, r5⟩ := O.row
            refine ⟨rr, r1, r2, r3, r4, fun x hx q3 hq3 => ?_⟩
            rcases (mrep x).mp hx with rfl | ⟨hx, hxo⟩
            · rw [lookN] at hq3
              cases hq3
              show r.part ∈ _
              rw [hpt]
              exact r5 o hm q hq
            · rw [oth x hx hxo] at hq3
              exact r5 x hx q3 hq3
          · rcases (mrep x).mp hx with rfl | ⟨hx, hxo⟩
            · exact ⟨r', lookN, rfl⟩
            · obtain ⟨q2, g1, g2⟩ := O.held x hx
              exact ⟨q2, by rw [oth x hx hxo]; exact g1, g2⟩
          · exact absurd (show p.above = some k' from hk') (by rw [I.above_none hp hpw]; exact fun z => nomatch z)
          · show (pcsOf (replPc o n p.holds)).Nodup
            rw [s3]
            exact nodup_set O.nd s1 hnh
          · show ((lotsOf (replPc o n p.holds)).map (·.1)).Nodup
            rw [lotsOf_repl]
            exact O.ndl
          · show ∀ x ∈ lotsOf (replPc o n p.holds), _
            rw [lotsOf_repl]
            exact O.lots
          · show p.cost + (r.cost - q.cost) = p.own + ((replPc o n p.holds).map _).sum
            rw [hold_sum, lotsOf_repl, s3]
            have c := O.cost
            rw [hold_sum] at c
            have e1 : ((pcsOf p.holds).set s n).map (fs.swap j o n p q r).pcost = ((pcsOf p.holds).set s n).map fs.pcost := List.map_congr_left fun x hx => pcost x fun z => by
              rcases (mem_set_nd O.nd s1 x).mp hx with h | h
              · exact hkn (z ▸ h)
              · exact I.nobody hp hpw hp (z ▸ h.1)
            rw [e1, sum_set fs.pcost s1]
            have e2 : fs.pcost o = q.cost := by unfold Fl.pcost; rw [hq]; rfl
            have e3 : fs.pcost n = r.cost := by unfold Fl.pcost; rw [hr]; rfl
            have e4 : ((lotsOf p.holds).map fun x => x.2 * (fs.swap j o n p q r).price x.1) = (lotsOf p.holds).map fun x => x.2 * fs.price x.1 := rfl
            rw [e2, e3, e4]
            omega
          · show (replPc o n p.holds).length ≤ 200
            rw [replPc_len]
            exact O.len
        · rw [other j h1 h2 h3] at ha
          have Oa := I.pc j a ha
          refine keep j a a ha h3 rfl rfl rfl rfl rfl Oa.st Oa.up fun k' hk' => ?_
          obtain ⟨q2, g1, g2⟩ := Oa.upper k' hk'
          by_cases e1 : k' = n
          · subst e1; rw [hr] at g1; cases g1; exact ⟨r', lookN, g2⟩
          · by_cases e2 : k' = o
            · subst e2; rw [hq] at g1; cases g1; exact ⟨q', lookO, g2⟩
            · by_cases e3 : k' = k
              · subst e3
                rw [hp] at g1
                cases g1
                exact ⟨p', lookK, (mrep j).mpr (.inr ⟨g2, h2⟩)⟩
              · exact ⟨q2, by rw [other k' e1 e2 e3]; exact g1, g2⟩
  · have hmn := I.money
    unfold Fl.worth at hmn ⊢
    show fs.spent = (fs.lots.map lotWorth).sum + ((((fs.pcs.set k p').set o q').set n r').map topCost).sum + fs.lost
    have g1 : (fs.pcs.set k p')[o]? = some q := by rw [List.getElem?_set_ne hko]; exact hq
    have g2 : ((fs.pcs.set k p').set o q')[n]? = some r := by rw [List.getElem?_set_ne hon, List.getElem?_set_ne hkn]; exact hr
    rw [sum_set topCost g2, sum_set topCost g1, sum_set topCost hp]
    have t1 : topCost p = p.cost := if_neg hpw
    have t2 : topCost q = 0 := if_pos hqw
    have t3 : topCost r = r.cost := if_neg hrw'
    have t4 : topCost p' = p.cost + (r.cost - q.cost) := if_neg made_ne
    have t5 : topCost q' = q.cost := if_neg bad_ne
    have t6 : topCost r' = 0 := if_pos rfl
    rw [t1, t2, t3, t4, t5, t6]
    omega
  · show fs.lots.length + (((fs.pcs.set k p').set o q').set n r').length ≤ (fs.book ++ [_]).length
    rw [List.length_set, List.length_set, List.length_set, List.length_append]
    have := I.few
    omega
end PM

namespace PM
open PySem L2 WK
/-- a piece is put into another -/
theorem FlI.givePc {fs : Fl} (I : FlI fs) {n k : Nat} {p q : Pc} (hn : fs.pcs[n]? = some p) (hk : fs.pcs[k]? = some q) (hpw : p.state ≠ "within") (hqs : q.state = "stock") (hne : k ≠ n)
    (hrow : ∀ r, PM.rowOf fs.rs p.part = some r → q.part ∈ r.needs.map (·.1)) (hlen : p.holds.length < 200) : FlI (fs.give n (.pc k)) := by
  have hqw : q.state ≠ "within" := by rw [hqs]; decide
  have lk := (List.getElem?_eq_some_iff.mp hk).1
  have ln := (List.getElem?_eq_some_iff.mp hn).1
  let q' : Pc := { q with state := "within", above := some n }
  let p' : Pc := { p with holds := p.holds ++ [Hold.pc k], cost := p.cost + q.cost }
  have eg : fs.give n (.pc k) = { fs with pcs := (fs.pcs.set k q').set n p' } := by unfold Fl.give; dsimp only; rw [hk, hn]
  rw [eg]
  have O := I.pc n p hn
  have look : ∀ i, ((fs.pcs.set k q').set n p')[i]? = if i = n then some p' else if i = k then some q' else fs.pcs[i]? := fun i => by
    by_cases h1 : i = n
    · subst h1; rw [List.getElem?_set_self (by rw [List.length_set]; exact ln), if_pos rfl]
    · rw [List.getElem?_set_ne (Ne.symm h1), if_neg h1]
      by_cases h2 : i = k
      · subst h2; rw [List.getElem?_set_self lk, if_pos rfl]
      · rw [List.getElem?_set_ne (Ne.symm h2), if_neg h2]
  have lookN : ((fs.pcs.set k q').set n p')[n]? = some p' := by rw [look, if_pos rfl]
  have lookK : ((fs.pcs.set k q').set n p')[k]? = some q' := by rw [look, if_neg hne, if_pos rfl]
  have other : ∀ i, i ≠ n → i ≠ k → ((fs.pcs.set k q').set n p')[i]? = fs.pcs[i]? := fun i h1 h2 => by rw [look, if_neg h1, if_neg h2]
  have hold : ∀ (j : Nat) (a : Pc), fs.pcs[j]? = some a → ∀ k' ∈ pcsOf a.holds, k' ≠ n ∧ k' ≠ k := fun j a ha k' hk' => ⟨fun z => I.nobody hn hpw ha (z ▸ hk'), fun z => I.nobody hk hqw ha (z ▸ hk')⟩
  have keep : ∀ (j : Nat) (a a' : Pc), fs.pcs[j]? = some a → a'.part = a.part → a'.holds = a.holds → a'.at_ = a.at_ → a'.cost = a.cost → a'.own = a.own → a'.state ∈ stList → (a'.above = none ↔ a'.state ≠ "within") →
      (∀ k', a'.above = some k' → ∃ q2, ((fs.pcs.set k q').set n p')[k']? = some q2 ∧ j ∈ pcsOf q2.holds) → PcOk { fs with pcs := (fs.pcs.set k q').set n p' } j a' := fun j a a' ha g1 g2 g3 g4 g5 g6 g7 g8 =>
    (I.pc j a ha).keep rfl rfl (fun _ => rfl) g1 g2 g3 g4 g5 g6 g7 (fun k' hk' q2 h1 h2 => by
      obtain ⟨m1, m2⟩ := hold j a ha k' hk'
      exact ⟨q2, by show ((fs.pcs.set k q').set n p')[k']? = _; rw [other k' m1 m2]; exact h1, rfl, h2, rfl⟩) g8
  have mrep : ∀ x, x ∈ pcsOf p'.holds ↔ x = k ∨ x ∈ pcsOf p.holds := fun x => by
    show x ∈ pcsOf (p.holds ++ [Hold.pc k]) ↔ _
    rw [pcsOf_app, List.mem_append]
    show _ ∨ x ∈ [k] ↔ _
    rw [List.mem_singleton]
    exact Or.comm
  refine ⟨I.good, I.six, I.rate, fun j a ha => ?_, I.lot, ?_, ?_⟩
  · replace ha : ((fs.pcs.set k q').set n p')[j]? = some a := ha
    by_cases h1 : j = n
    · subst h1
      rw [lookN] at ha
      cases ha
      have oth : ∀ x ∈ pcsOf p.holds, ((fs.pcs.set k q').set j p')[x]? = fs.pcs[x]? := fun x hx => other x (hold j p hn x hx).1 (hold j p hn x hx).2
      refine ⟨?_, O.st, O.up, fun x hx => ?_, fun k' hk' => ?_, ?_, ?_, ?_, ?_, ?_, O.own⟩
      · obtain ⟨rr, r1, r2, r3, r4, r5⟩ := O.row
        refine ⟨rr, r1, r2, r3, r4, fun x hx q3 hq3 => ?_⟩
        replace hq3 : ((fs.pcs.set k q').set j p')[x]? = some q3 := hq3
        rcases (mrep x).mp hx with rfl | hx
        · rw [lookK] at hq3
          cases hq3
          exact hrow rr r1
        · rw [oth x hx] at hq3
          exact r5 x hx q3 hq3
      · rcases (mrep x).mp hx with rfl | hx
        · exact ⟨q', lookK, rfl⟩
        · obtain ⟨q2, g1, g2⟩ := O.held x hx
          exact ⟨q2, by show ((fs.pcs.set k q').set j p')[x]? = _; rw [oth x hx]; exact g1, g2⟩
      · exact absurd (show p.above = some k' from hk') (by rw [I.above_none hn hpw]; exact fun z => nomatch z)
      · show (pcsOf (p.holds ++ [Hold.pc k])).Nodup
        rw [pcsOf_app]
        refine List.nodup_append.mpr ⟨O.nd, by show [k].Nodup; simp, fun a ha b hb z => ?_⟩
        have hb' : b = k := List.mem_singleton.mp hb
        exact I.nobody hk hqw hn (by rw [← hb', ← z]; exact ha)
      · show ((lotsOf (p.holds ++ [Hold.pc k])).map (·.1)).Nodup
        rw [lotsOf_app]
        show ((lotsOf p.holds ++ ([] : List (Nat × Int))).map (·.1)).Nodup
        rw [List.append_nil]
        exact O.ndl
      · show ∀ x ∈ lotsOf (p.holds ++ [Hold.pc k]), _
        rw [lotsOf_app]
        show ∀ x ∈ lotsOf p.holds ++ ([] : List (Nat × Int)), _
        rw [List.append_nil]
        exact O.lots
      · show p.cost + q.cost = p.own + ((p.holds ++ [Hold.pc k]).map _).sum
        have c := O.cost
        rw [List.map_append, List.sum_append, holdCost_congr (fs := fs) (fs' := { fs with pcs := (fs.pcs.set k q').set j p' }) (hs := p.holds) (fun _ _ => rfl) (fun x hx => by unfold Fl.pcost; dsimp only; rw [oth x hx])]
        have e : (List.map (Fl.holdCost { fs with pcs := (fs.pcs.set k q').set j p' }) [Hold.pc k]).sum = q.cost := by
          show Fl.pcost _ k + 0 = _
          unfold Fl.pcost
          dsimp only
          rw [lookK]
          exact Int.add_zero _
        rw [e]
        omega
      · show (p.holds ++ [Hold.pc k]).length ≤ 200
        rw [List.length_append]
        exact hlen
    · by_cases h2 : j = k
      · subst h2
        rw [lookK] at ha
        cases ha
        refine keep j q q' hk rfl rfl rfl rfl rfl in_within up_w fun k' hk' => ?_
        cases hk'
        exact ⟨p', lookN, (mrep _).mpr (.inl rfl)⟩
      · rw [other j h1 h2] at ha
        have Oa := I.pc j a ha
        refine keep j a a ha rfl rfl rfl rfl rfl Oa.st Oa.up fun k' hk' => ?_
        obtain ⟨q2, g1, g2⟩ := Oa.upper k' hk'
        by_cases e1 : k' = n
        · subst e1; rw [hn] at g1; cases g1; exact ⟨p', lookN, (mrep _).mpr (.inr g2)⟩
        · by_cases e2 : k' = k
          · subst e2; rw [hk] at g1; cases g1; exact ⟨q', lookK, g2⟩
          · exact ⟨q2, by rw [other k' e1 e2]; exact g1, g2⟩
  · have hmn := I.money
    unfold Fl.worth at hmn ⊢
    show fs.spent = (fs.lots.map lotWorth).sum + (((fs.pcs.set k q').set n p').map topCost).sum + fs.lost
    have g1 : (fs.pcs.set k q')[n]? = some p := by rw [List.getElem?_set_ne hne]; exact hn
    rw [sum_set topCost g1, sum_set topCost hk]
    have t1 : topCost p = p.cost := if_neg hpw
    have t2 : topCost q = q.cost := if_neg hqw
    have t3 : topCost p' = p.cost + q.cost := if_neg hpw
    have t4 : topCost q' = 0 := if_pos rfl
    rw [t1, t2, t3, t4]
    omega
  · show fs.lots.length + ((fs.pcs.set k q').set n p').length ≤ fs.book.length
    rw [List.length_set, List.length_set]
    exact I.few
/-- a lot's share is put into a piece -/
theorem FlI.giveLot {fs : Fl} (I : FlI fs) {n j : Nat} {m : Int} {p : Pc} {x : Lt} (hn : fs.pcs[n]? = some p) (hj : fs.lots[j]? = some x) (hpw : p.state ≠ "within") (h0 : 0 < m) (h9 : m ≤ 9) (hx : m ≤ x.left) (hnew : j ∉ (lotsOf p.holds).map (·.1)) (hlen : p.holds.length < 200) : FlI (fs.give n (.lot j m)) := by
  have ln := (List.getElem?_eq_some_iff.mp hn).1
  have lj := (List.getElem?_eq_some_iff.mp hj).1
  let x' : Lt := { x with left := x.left - m }
  let p' : Pc := { p with holds := p.holds ++ [Hold.lot j m], cost := p.cost + m * x.price }
  have eg : fs.give n (.lot j m) = { fs with lots := fs.lots.set j x', pcs := fs.pcs.set n p' } := by unfold Fl.give; dsimp only; rw [hj, hn]
  rw [eg]
  have O := I.pc n p hn
  have look : ∀ i, (fs.pcs.set n p')[i]? = if i = n then some p' else fs.pcs[i]? := fun i => by
    by_cases h1 : i = n
    · subst h1; rw [List.getElem?_set_self ln, if_pos rfl]
    · rw [List.getElem?_set_ne (Ne.symm h1), if_neg h1]
  have lookN : (fs.pcs.set n p')[n]? = some p' := by rw [look, if_pos rfl]
  have other : ∀ i, i ≠ n → (fs.pcs.set n p')[i]? = fs.pcs[i]? := fun i h1 => by rw [look, if_neg h1]
  have lookL : ∀ i, (fs.lots.set j x')[i]? = if i = j then some x' else fs.lots[i]? := fun i => by
    by_cases h1 : i = j
    · subst h1; rw [List.getElem?_set_self lj, if_pos rfl]
    · rw [List.getElem?_set_ne (Ne.symm h1), if_neg h1]
  have pr : ∀ i, Fl.price { fs with lots := fs.lots.set j x', pcs := fs.pcs.set n p' } i = fs.price i := fun i => by
    unfold Fl.price
    dsimp only
    rw [lookL]
    by_cases h : i = j
    · subst h; rw [if_pos rfl, hj]; rfl
    · rw [if_neg h]
  have hold : ∀ (i : Nat) (a : Pc), fs.pcs[i]? = some a → ∀ k' ∈ pcsOf a.holds, k' ≠ n := fun i a ha k' hk' z => I.nobody hn hpw ha (z ▸ hk')
  have hpo : pcsOf p'.holds = pcsOf p.holds := by
    show pcsOf (p.holds ++ [Hold.lot j m]) = _
    rw [pcsOf_app]
    exact List.append_nil _
  have hlo : lotsOf p'.holds = lotsOf p.holds ++ [(j, m)] := by
    show lotsOf (p.holds ++ [Hold.lot j m]) = _
    rw [lotsOf_app]
    rfl
  refine ⟨I.good, I.six, I.rate, fun i a ha => ?_, fun i a ha => ?_, ?_, ?_⟩
  · replace ha : (fs.pcs.set n p')[i]? = some a := ha
    by_cases h1 : i = n
    · subst h1
      rw [lookN] at ha
      cases ha
      refine ⟨?_, O.st, O.up, fun x hx => ?_, fun k' hk' => ?_, by rw [hpo]; exact O.nd, ?_, ?_, ?_, ?_, O.own⟩
      · obtain ⟨rr, r1, r2, r3, r4, r5⟩ := O.row
        refine ⟨rr, r1, r2, r3, r4, fun x hx q3 hq3 => ?_⟩
        rw [hpo] at hx
        replace hq3 : (fs.pcs.set i p')[x]? = some q3 := hq3
        rw [other x (hold i p hn x hx)] at hq3
        exact r5 x hx q3 hq3
      · rw [hpo] at hx
        obtain ⟨q2, g1, g2⟩ := O.held x hx
        exact ⟨q2, by show (fs.pcs.set i p')[x]? = _; rw [other x (hold i p hn x hx)]; exact g1, g2⟩
      · exact absurd (show p.above = some k' from hk') (by rw [I.above_none hn hpw]; exact fun z => nomatch z)
      · rw [hlo, List.map_append]
        refine List.nodup_append.mpr ⟨O.ndl, by simp, fun a ha b hb z => ?_⟩
        have hb' : b = j := List.mem_singleton.mp hb
        exact hnew (by rw [← hb', ← z]; exact ha)
      · rw [hlo]
        intro y hy
        show y.1 < (fs.lots.set j x').length ∧ _
        rw [List.length_set]
        rcases List.mem_append.mp hy with hy | hy
        · exact O.lots y hy
        · rw [List.mem_singleton] at hy
          subst hy
          exact ⟨lj, h0, h9⟩
      · show p.cost + m * x.price = p.own + ((p.holds ++ [Hold.lot j m]).map _).sum
        have c := O.cost
        rw [List.map_append, List.sum_append, holdCost_congr (fs := fs) (fs' := { fs with lots := fs.lots.set j x', pcs := fs.pcs.set i p' }) (hs := p.holds) (fun y _ => pr y.1) (fun x hx => by unfold Fl.pcost; dsimp only; rw [other x (hold i p hn x hx)])]
        have e : (List.map (Fl.holdCost { fs with lots := fs.lots.set j x', pcs := fs.pcs.set i p' }) [Hold.lot j m]).sum = m * x.price := by
          show m * Fl.price _ j + 0 = _
          rw [pr]
          unfold Fl.price
          rw [hj]
          exact Int.add_zero _
        rw [e]
        omega
      · show (p.holds ++ [Hold.lot j m]).length ≤ 200
        rw [List.length_append]
        exact hlen
    · rw [other i h1] at ha
      have Oa := I.pc i a ha
      refine Oa.keep rfl (List.length_set) pr rfl rfl rfl rfl rfl Oa.st Oa.up (fun k' hk' q2 g1 g2 => ⟨q2, by show (fs.pcs.set n p')[k']? = _; rw [other k' (hold i a ha k' hk')]; exact g1, rfl, g2, rfl⟩) fun k' hk' => ?_
      obtain ⟨q2, g1, g2⟩ := Oa.upper k' hk'
      by_cases e1 : k' = n
      · subst e1
        rw [hn] at g1
        cases g1
        exact ⟨p', lookN, by rw [hpo]; exact g2⟩
      · exact ⟨q2, by show (fs.pcs.set n p')[k']? = _; rw [other k' e1]; exact g1, g2⟩
  · replace ha : (fs.lots.set j x')[i]? = some a := ha
    rw [lookL] at ha
    by_cases h : i = j
    · rw [if_pos h] at ha
      cases ha
      obtain ⟨l1, l2⟩ := I.lot j x hj
      exact ⟨by show 0 ≤ x.left - m; omega, l2⟩
    · rw [if_neg h] at ha
      exact I.lot i a ha
  · have hmn := I.money
    unfold Fl.worth at hmn ⊢
    show fs.spent = ((fs.lots.set j x').map lotWorth).sum + ((fs.pcs.set n p').map topCost).sum + fs.lost
    rw [sum_set topCost hn, sum_set lotWorth hj]
    have t1 : topCost p = p.cost := if_neg hpw
    have t3 : topCost p' = p.cost + m * x.price := if_neg hpw
    have t4 : lotWorth x' = x.left * x.price - m * x.price := Int.sub_mul ..
    have t5 : lotWorth x = x.left * x.price := rfl
    rw [t1, t3, t4, t5]
    omega
  · show (fs.lots.set j x').length + (fs.pcs.set n p').length ≤ fs.book.length
    rw [List.length_set, List.length_set]
    exact I.few
/-- what may be put in, one behind the other -/
structure PutOk (fs : Fl) (n : Nat) (p : Pc) (hs : List Hold) : Prop where
  pc : ∀ k ∈ pcsOf hs, ∃ q, fs.pcs[k]? = some q ∧ q.state = "stock" ∧ ∀ r, PM.rowOf fs.rs p.part = some r → q.part ∈ r.needs.map (·.1)
  nd : (pcsOf hs).Nodup
  lot : ∀ x ∈ lotsOf hs, ∃ l, fs.lots[x.1]? = some l ∧ 0 < x.2 ∧ x.2 ≤ 9 ∧ x.2 ≤ l.left
  ndl : ((lotsOf p.holds ++ lotsOf hs).map (·.1)).Nodup
  len : p.holds.length + hs.length ≤ 200
theorem FlI.giveAll {n : Nat} : ∀ {hs : List Hold} {fs : Fl} {p : Pc}, FlI fs → fs.pcs[n]? = some p → p.state ≠ "within" → p.state ≠ "stock" → PutOk fs n p hs →
    FlI (fs.giveAll n hs) ∧ (fs.giveAll n hs).pcs.length = fs.pcs.length ∧ (fs.giveAll n hs).lots.length = fs.lots.length ∧ (∃ c, (fs.giveAll n hs).pcs[n]? = some { p with holds := p.holds ++ hs, cost := c }) ∧
      ∀ i q, i ≠ n → fs.pcs[i]? = some q → ∃ q', (fs.giveAll n hs).pcs[i]? = some q' ∧ q'.part = q.part ∧ q'.at_ = q.at_ ∧ (q' = q ∨ q'.state = "within")
  | [], fs, p, I, hn, hw, hst, P => ⟨I, rfl, rfl, ⟨p.cost, by rw [List.append_nil]; exact hn⟩, fun i q _ h => ⟨q, h, rfl, rfl, .inl rfl⟩⟩
  | .pc k :: hs, fs, p, I, hn, hw, hst, P => by
    have ln := (List.getElem?_eq_some_iff.mp hn).1
    have e0 : fs.giveAll n (.pc k :: hs) = (fs.give n (.pc k)).giveAll n hs := rfl
    have len := P.len
    rw [List.length_cons] at len
    obtain ⟨q, hk, hqs, hqr⟩ := P.pc k (show k ∈ k :: pcsOf hs from .head _)
    have lk := (List.getElem?_eq_some_iff.mp hk).1
    have hne : k ≠ n := fun z => by subst z; rw [hn] at hk; cases hk; exact hst hqs
    have I1 := I.givePc hn hk hw hqs hne hqr (by omega)
    have nd := List.nodup_cons.mp (show (k :: pcsOf hs).Nodup from P.nd)
    have eg : fs.give n (.pc k) = { fs with pcs := (fs.pcs.set k { q with state := "within", above := some n }).set n { p with holds := p.holds ++ [Hold.pc k], cost := p.cost + q.cost } } := by unfold Fl.give; dsimp only; rw [hk, hn]
    have hn1 : (fs.give n (.pc k)).pcs[n]? = some { p with holds := p.holds ++ [Hold.pc k], cost := p.cost + q.cost } := by
      rw [eg]
      exact List.getElem?_set_self (by rw [List.length_set]; exact ln)
    have oth : ∀ i, i ≠ n → (fs.give n (.pc k)).pcs[i]? = if i = k then some { q with state := "within", above := some n } else fs.pcs[i]? := fun i hi => by
      rw [eg]
      show ((fs.pcs.set k _).set n _)[i]? = _
      rw [List.getElem?_set_ne (Ne.symm hi)]
      by_cases h2 : i = k
      · subst h2; rw [List.getElem?_set_self lk, if_pos rfl]
      · rw [List.getElem?_set_ne (Ne.symm h2), if_neg h2]
    have P1 : PutOk (fs.give n (.pc k)) n { p with holds := p.holds ++ [Hold.pc k], cost := p.cost + q.cost } hs := by
      refine ⟨fun k2 hk2 => ?_, nd.2, fun x hx => ?_, ?_, by show (p.holds ++ [Hold.pc k]).length + _ ≤ 200; rw [List.length_append, List.length_singleton]; omega⟩
      · obtain ⟨q2, h1, h2, h3⟩ := P.pc k2 (show k2 ∈ k :: pcsOf hs from .tail _ hk2)
        have hk2n : k2 ≠ n := fun z => by subst z; rw [hn] at h1; cases h1; exact hst h2
        refine ⟨q2, ?_, h2, ?_⟩
        · rw [oth k2 hk2n, if_neg (fun (z : k2 = k) => nd.1 (by rw [← z]; exact hk2))]; exact h1
        · rw [eg]; exact h3
      · rw [eg]; exact P.lot x hx
      · show ((lotsOf (p.holds ++ [Hold.pc k]) ++ lotsOf hs).map (·.1)).Nodup
        rw [lotsOf_app]
        show ((lotsOf p.holds ++ ([] : List (Nat × Int)) ++ lotsOf hs).map (·.1)).Nodup
        rw [List.append_nil]
        exact P.ndl
    obtain ⟨J, j1, j2, ⟨c, j3⟩, j4⟩ := FlI.giveAll I1 hn1 hw hst P1
    rw [e0]
    refine ⟨J, by rw [j1, eg]; show ((fs.pcs.set k _).set n _).length = _; rw [List.length_set, List.length_set], by rw [j2, eg], ⟨c, ?_⟩, fun i q0 hi hq0 => ?_⟩
    · rw [j3]
      dsimp only
      rw [List.append_assoc]
      rfl
    · by_cases h2 : i = k
      · subst h2
        rw [hk] at hq0
        cases hq0
        obtain ⟨q', w1, w2, w3, w4⟩ := j4 i _ hi (by rw [oth i hi, if_pos rfl])
        exact ⟨q', w1, w2, w3, .inr (w4.elim (fun e => by rw [e]) id)⟩
      · exact j4 i q0 hi (by rw [oth i hi, if_neg h2]; exact hq0)
  | .lot j m :: hs, fs, p, I, hn, hw, hst, P => by
    have ln := (List.getElem?_eq_some_iff.mp hn).1
    have e0 : fs.giveAll n (.lot j m :: hs) = (fs.give n (.lot j m)).giveAll n hs := rfl
    have len := P.len
    rw [List.length_cons] at len
    obtain ⟨x, hj, h0, h9, hx⟩ := P.lot (j, m) (show (j, m) ∈ (j, m) :: lotsOf hs from .head _)
    have lj := (List.getElem?_eq_some_iff.mp hj).1
    have ndl : ((lotsOf p.holds).map (·.1) ++ j :: (lotsOf hs).map (·.1)).Nodup := by
      have := P.ndl
      rw [List.map_append] at this
      exact this
    have nd2 := List.nodup_append.mp ndl
    have I1 := I.giveLot hn hj hw h0 h9 hx (fun z => nd2.2.2 j z j (.head _) rfl) (by omega)
    have eg : fs.give n (.lot j m) = { fs with lots := fs.lots.set j { x with left := x.left - m }, pcs := fs.pcs.set n { p with holds := p.holds ++ [Hold.lot j m], cost := p.cost + m * x.price } } := by unfold Fl.give; dsimp only; rw [hj, hn]
    have hn1 : (fs.give n (.lot j m)).pcs[n]? = some { p with holds := p.holds ++ [Hold.lot j m], cost := p.cost + m * x.price } := by
      rw [eg]
      exact List.getElem?_set_self ln
    have oth : ∀ i, i ≠ n → (fs.give n (.lot j m)).pcs[i]? = fs.pcs[i]? := fun i hi => by
      rw [eg]
      exact List.getElem?_set_ne (Ne.symm hi)
    have P1 : PutOk (fs.give n (.lot j m)) n { p with holds := p.holds ++ [Hold.lot j m], cost := p.cost + m * x.price } hs := by
      refine ⟨fun k2 hk2 => ?_, P.nd, fun y hy => ?_, ?_, by show (p.holds ++ [Hold.lot j m]).length + _ ≤ 200; rw [List.length_append, List.length_singleton]; omega⟩
      · obtain ⟨q2, h1, h2, h3⟩ := P.pc k2 hk2
        have hk2n : k2 ≠ n := fun z => by subst z; rw [hn] at h1; cases h1; exact hst h2
        exact ⟨q2, by rw [oth k2 hk2n]; exact h1, h2, by rw [eg]; exact h3⟩
      · obtain ⟨l, h1, h2⟩ := P.lot y (show y ∈ (j, m) :: lotsOf hs from .tail _ hy)
        have hyj : y.1 ≠ j := fun z => (List.nodup_cons.mp nd2.2.1).1 (z ▸ List.mem_map.mpr ⟨y, hy, rfl⟩)
        refine ⟨l, ?_, h2⟩
        rw [eg]
        show (fs.lots.set j _)[y.1]? = _
        rw [List.getElem?_set_ne (Ne.symm hyj)]
        exact h1
      · show ((lotsOf (p.holds ++ [Hold.lot j m]) ++ lotsOf hs).map (·.1)).Nodup
        rw [lotsOf_app]
        show ((lotsOf p.holds ++ [(j, m)] ++ lotsOf hs).map (·.1)).Nodup
        rw [List.append_assoc, List.map_append]
        exact ndl
    obtain ⟨J, j1, j2, ⟨c, j3⟩, j4⟩ := FlI.giveAll I1 hn1 hw hst P1
    rw [e0]
    refine ⟨J, by rw [j1, eg]; show (fs.pcs.set n _).length = _; rw [List.length_set], by rw [j2, eg]; show (fs.lots.set j _).length = _; rw [List.length_set], ⟨c, ?_⟩, fun i q0 hi hq0 => ?_⟩
    · rw [j3]
      dsimp only
      rw [List.append_assoc]
      rfl
    · exact j4 i q0 hi (by rw [oth i hi]; exact hq0)
end PM

namespace PM
open PySem L2 WK
/-! what is taken -/
theorem takeFold_ok (z : Str) (full : List Lt) : ∀ (xs : List (Lt × Nat)) (acc : List (Nat × Int) × Int), (∀ y ∈ xs, full[y.2]? = some y.1) → (∀ e ∈ acc.1, ∃ l, full[e.1]? = some l ∧ l.part = z ∧ 0 < e.2 ∧ e.2 ≤ l.left) → 0 ≤ acc.2 →
    (∀ e ∈ (xs.foldl (takeStep z) acc).1, ∃ l, full[e.1]? = some l ∧ l.part = z ∧ 0 < e.2 ∧ e.2 ≤ l.left) ∧ 0 ≤ (xs.foldl (takeStep z) acc).2 ∧ ((xs.foldl (takeStep z) acc).1.map (·.2)).sum + (xs.foldl (takeStep z) acc).2 = (acc.1.map (·.2)).sum + acc.2 ∧
      ((xs.foldl (takeStep z) acc).1.map (·.1)).Sublist (acc.1.map (·.1) ++ xs.map (·.2))
  | [], acc, _, h1, h2 => ⟨h1, h2, rfl, by simp⟩
  | x :: xs, acc, h0, h1, h2 => by
    have hx := h0 x (.head _)
    have hr : ∀ y ∈ xs, full[y.2]? = some y.1 := fun y hy => h0 y (.tail _ hy)
    rw [List.foldl_cons]
    by_cases c : x.1.part = z ∧ 0 < x.1.left ∧ 0 < acc.2
    · have e : takeStep z acc x = (acc.1 ++ [(x.2, if acc.2 < x.1.left then acc.2 else x.1.left)], acc.2 - (if acc.2 < x.1.left then acc.2 else x.1.left)) := if_pos c
      have hv : 0 < (if acc.2 < x.1.left then acc.2 else x.1.left) ∧ (if acc.2 < x.1.left then acc.2 else x.1.left) ≤ x.1.left ∧ (if acc.2 < x.1.left then acc.2 else x.1.left) ≤ acc.2 := by
        obtain ⟨_, c2, c3⟩ := c
        split <;> omega
      rw [e]
      obtain ⟨a1, a2, a3, a4⟩ := takeFold_ok z full xs (acc.1 ++ [(x.2, if acc.2 < x.1.left then acc.2 else x.1.left)], acc.2 - (if acc.2 < x.1.left then acc.2 else x.1.left)) hr (fun e he => by
        rcases List.mem_append.mp he with he | he
        · exact h1 e he
        · rw [List.mem_singleton] at he
          subst he
          exact ⟨x.1, hx, c.1, hv.1, hv.2.1⟩) (by show 0 ≤ acc.2 - _; omega)
      refine ⟨a1, a2, ?_, ?_⟩
      · rw [a3]
        dsimp only
        rw [List.map_append, List.sum_append, List.map_cons, List.map_nil, List.sum_cons, List.sum_nil]
        dsimp only
        omega
      · refine a4.trans ?_
        dsimp only
        rw [List.map_append, List.map_cons, List.append_assoc]
        exact List.Sublist.refl _
    · have e : takeStep z acc x = acc := if_neg c
      rw [e]
      obtain ⟨a1, a2, a3, a4⟩ := takeFold_ok z full xs acc hr h1 h2
      exact ⟨a1, a2, a3, a4.trans (List.Sublist.append_left (List.sublist_cons_self _ _) _)⟩
theorem zip_at {α : Type} {l : List α} {y : α × Nat} (h : y ∈ l.zipIdx) : l[y.2]? = some y.1 := by
  obtain ⟨i, hi⟩ := List.getElem?_of_mem h
  rw [List.getElem?_zipIdx] at hi
  cases e : l[i]? with
  | none => rw [e] at hi; cases hi
  | some v =>
    rw [e] at hi
    cases hi
    simpa using e
theorem zip_nd {α : Type} (l : List α) : (l.zipIdx.map (·.2)).Nodup := by
  have : l.zipIdx.map (·.2) = List.range l.length := by
    rw [List.zipIdx_map_snd]
    exact List.range_eq_range'.symm
  rw [this]
  exact List.nodup_range
theorem sum_pos_bound : ∀ (l : List (Nat × Int)) (s : Int), (∀ e ∈ l, 0 < e.2) → (l.map (·.2)).sum ≤ s → (l.length : Int) ≤ s ∧ ∀ e ∈ l, e.2 ≤ s
  | [], s, _, h => ⟨h, fun e he => nomatch he⟩
  | a :: l, s, hp, h => by
    rw [List.map_cons, List.sum_cons] at h
    have ha := hp a (.head _)
    obtain ⟨i1, i2⟩ := sum_pos_bound l (s - a.2) (fun e he => hp e (.tail _ he)) (by omega)
    refine ⟨by rw [List.length_cons]; omega, fun e he => ?_⟩
    rcases List.mem_cons.mp he with rfl | he
    · have : (0 : Int) ≤ (l.length : Int) := by omega
      omega
    · have := i2 e he
      omega
theorem takeLots_ok (lots : List Lt) (z : Str) {m : Int} (hm : 0 ≤ m) : (∀ e ∈ (takeLots lots z m).1, ∃ l, lots[e.1]? = some l ∧ l.part = z ∧ 0 < e.2 ∧ e.2 ≤ l.left ∧ e.2 ≤ m) ∧ ((takeLots lots z m).1.map (·.1)).Nodup ∧ ((takeLots lots z m).1.length : Int) ≤ m := by
  obtain ⟨a1, a2, a3, a4⟩ := takeFold_ok z lots lots.zipIdx ([], m) (fun y hy => zip_at hy) (fun e he => nomatch he) hm
  have a3' : ((takeLots lots z m).1.map (·.2)).sum ≤ m := by
    have : ((takeLots lots z m).1.map (·.2)).sum + (takeLots lots z m).2 = 0 + m := a3
    have h2 : 0 ≤ (takeLots lots z m).2 := a2
    omega
  obtain ⟨b1, b2⟩ := sum_pos_bound (takeLots lots z m).1 m (fun e he => (a1 e he).elim fun l h => h.2.2.1) a3'
  refine ⟨fun e he => ?_, ?_, b1⟩
  · obtain ⟨l, h1, h2, h3, h4⟩ := a1 e he
    exact ⟨l, h1, h2, h3, h4, b2 e he⟩
  · exact a4.nodup (by rw [List.map_nil, List.nil_append]; exact zip_nd lots)
theorem mem_stockOf {pcs : List Pc} {z : Str} {k : Nat} : k ∈ stockOf pcs z ↔ ∃ q, pcs[k]? = some q ∧ q.part = z ∧ q.state = "stock" := by
  unfold stockOf
  rw [List.mem_map]
  constructor
  · rintro ⟨y, hy, rfl⟩
    obtain ⟨h1, h2⟩ := List.mem_filter.mp hy
    rw [Bool.and_eq_true, decide_eq_true_eq, decide_eq_true_eq] at h2
    exact ⟨y.1, zip_at h1, h2.1, h2.2⟩
  · rintro ⟨q, h1, h2, h3⟩
    refine ⟨(q, k), List.mem_filter.mpr ⟨?_, by rw [Bool.and_eq_true, decide_eq_true_eq, decide_eq_true_eq]; exact ⟨h2, h3⟩⟩, rfl⟩
    exact List.mem_of_getElem? (getElem_zipIdx h1)
theorem stockOf_nd (pcs : List Pc) (z : Str) : (stockOf pcs z).Nodup := by
  unfold stockOf
  exact (List.Sublist.map _ List.filter_sublist).nodup (zip_nd pcs)
theorem lotsOf_lh : ∀ xs, lotsOf (lotHolds xs) = xs
  | [] => rfl
  | x :: xs => congrArg (x :: ·) (lotsOf_lh xs)
theorem pcsOf_lh : ∀ xs, pcsOf (lotHolds xs) = []
  | [] => rfl
  | _ :: xs => pcsOf_lh xs
theorem pcsOf_ph : ∀ ks, pcsOf (pcHolds ks) = ks
  | [] => rfl
  | k :: ks => congrArg (k :: ·) (pcsOf_ph ks)
theorem lotsOf_ph : ∀ ks, lotsOf (pcHolds ks) = []
  | [] => rfl
  | _ :: ks => lotsOf_ph ks
/-- what is taken of some needs -/
structure TakOk (fs : Fl) (names : List Str) (hs : List Hold) : Prop where
  pc : ∀ k ∈ pcsOf hs, ∃ q, fs.pcs[k]? = some q ∧ q.state = "stock" ∧ q.part ∈ names
  nd : (pcsOf hs).Nodup
  lot : ∀ x ∈ lotsOf hs, ∃ l, fs.lots[x.1]? = some l ∧ l.part ∈ names ∧ 0 < x.2 ∧ x.2 ≤ 9 ∧ x.2 ≤ l.left
  ndl : ((lotsOf hs).map (·.1)).Nodup
theorem taken_ok {fs : Fl} {z : Str} {m : Int} {hs : List Hold} (h0 : 0 ≤ m) (h9 : m ≤ 9) (h : fs.taken z m = some hs) : TakOk fs [z] hs ∧ hs.length ≤ 9 := by
  unfold Fl.taken at h
  split at h
  · split at h
    · cases h
      obtain ⟨a1, a2, a3⟩ := takeLots_ok fs.lots z h0
      refine ⟨⟨?_, ?_, ?_, ?_⟩, ?_⟩
      · rw [pcsOf_lh]; exact fun k hk => nomatch hk
      · rw [pcsOf_lh]; exact List.nodup_nil
      · rw [lotsOf_lh]
        intro x hx
        obtain ⟨l, h1, h2, h3, h4, h5⟩ := a1 x hx
        exact ⟨l, h1, List.mem_singleton.mpr h2, h3, by omega, h4⟩
      · rw [lotsOf_lh]; exact a2
      · unfold lotHolds
        rw [List.length_map]
        omega
    · cases h
  · split at h
    · cases h
      refine ⟨⟨?_, ?_, ?_, ?_⟩, ?_⟩
      · rw [pcsOf_ph]
        intro k hk
        obtain ⟨q, h1, h2, h3⟩ := mem_stockOf.mp (List.mem_of_mem_take hk)
        exact ⟨q, h1, h3, List.mem_singleton.mpr h2⟩
      · rw [pcsOf_ph]
        exact (List.take_sublist _ _).nodup (stockOf_nd _ _)
      · rw [lotsOf_ph]; exact fun x hx => nomatch hx
      · rw [lotsOf_ph]; exact List.nodup_nil
      · unfold pcHolds
        rw [List.length_map, List.length_take]
        omega
    · cases h
theorem takes_ok {fs : Fl} : ∀ {needs : List (Str × Int)}, (needs.map (·.1)).Nodup → (∀ x ∈ needs, 1 ≤ x.2 ∧ x.2 ≤ 9) → (∀ x ∈ needs, (fs.taken x.1 x.2).isSome = true) → TakOk fs (needs.map (·.1)) (fs.takes needs).flatten ∧ (fs.takes needs).flatten.length ≤ 9 * needs.length
  | [], _, _, _ => ⟨⟨(fun k hk => nomatch hk), List.nodup_nil, (fun x hx => nomatch hx), List.nodup_nil⟩, Nat.zero_le _⟩
  | x :: needs, nd, hm, hs => by
    obtain ⟨n1, n2⟩ := List.nodup_cons.mp nd
    obtain ⟨T, tl⟩ := takes_ok (fs := fs) n2 (fun y hy => hm y (.tail _ hy)) (fun y hy => hs y (.tail _ hy))
    obtain ⟨h, hh⟩ := Option.isSome_iff_exists.mp (hs x (.head _))
    obtain ⟨U, ul⟩ := taken_ok (by have := hm x (.head _); omega) (hm x (.head _)).2 hh
    have e : (fs.takes (x :: needs)).flatten = h ++ (fs.takes needs).flatten := by
      show ((fs.taken x.1 x.2).getD [] :: fs.takes needs).flatten = _
      rw [hh]
      rfl
    rw [e]
    refine ⟨⟨?_, ?_, ?_, ?_⟩, ?_⟩
    · rw [pcsOf_app]
      intro k hk
      rcases List.mem_append.mp hk with hk | hk
      · obtain ⟨q, q1, q2, q3⟩ := U.pc k hk
        exact ⟨q, q1, q2, by rw [List.mem_singleton.mp q3]; exact .head _⟩
      · obtain ⟨q, q1, q2, q3⟩ := T.pc k hk
        exact ⟨q, q1, q2, .tail _ q3⟩
    · rw [pcsOf_app]
      refine List.nodup_append.mpr ⟨U.nd, T.nd, fun a ha b hb z => ?_⟩
      subst z
      obtain ⟨q, q1, _, q3⟩ := U.pc a ha
      obtain ⟨q', q1', _, q3'⟩ := T.pc a hb
      rw [q1] at q1'
      cases q1'
      rw [List.mem_singleton.mp q3] at q3'
      exact n1 q3'
    · rw [lotsOf_app]
      intro k hk
      rcases List.mem_append.mp hk with hk | hk
      · obtain ⟨q, q1, q2, q3⟩ := U.lot k hk
        exact ⟨q, q1, by rw [List.mem_singleton.mp q2]; exact .head _, q3⟩
      · obtain ⟨q, q1, q2, q3⟩ := T.lot k hk
        exact ⟨q, q1, .tail _ q2, q3⟩
    · rw [lotsOf_app, List.map_append]
      refine List.nodup_append.mpr ⟨U.ndl, T.ndl, fun a ha b hb z => ?_⟩
      subst z
      obtain ⟨y, hy, rfl⟩ := List.mem_map.mp ha
      obtain ⟨y', hy', e'⟩ := List.mem_map.mp hb
      obtain ⟨q, q1, q2, _⟩ := U.lot y hy
      obtain ⟨q', q1', q2', _⟩ := T.lot y' hy'
      rw [e', q1] at q1'
      cases q1'
      rw [List.mem_singleton.mp q2] at q2'
      exact n1 q2'
    · rw [List.length_append, List.length_cons]
      omega
theorem lacking_none {fs : Fl} {needs : List (Str × Int)} (h : fs.lacking needs = none) : ∀ x ∈ needs, (fs.taken x.1 x.2).isSome = true := by
  intro x hx
  unfold Fl.lacking at h
  rw [Option.map_eq_none_iff, List.find?_eq_none] at h
  have := h x hx
  cases e : fs.taken x.1 x.2 with
  | none => rw [e] at this; simp at this
  | some v => rfl
/-! taken apart -/
def lprice (l : List Lt) (j : Nat) : Int := ((l[j]?).map (·.price)).getD 0
theorem stripLots : ∀ (xs : List (Nat × Int)) (l : List Lt) (h : Int), (∀ x ∈ xs, x.1 < l.length ∧ 0 ≤ x.2) →
    (xs.foldl stripLot (l, h)).1.length = l.length ∧ (∀ (j : Nat) (x : Lt), l[j]? = some x → ∃ y : Lt, (xs.foldl stripLot (l, h)).1[j]? = some y ∧ y.part = x.part ∧ y.price = x.price ∧ x.left ≤ y.left) ∧
      (xs.foldl stripLot (l, h)).2 = h + (xs.map fun x => x.2 * lprice l x.1).sum ∧ ((xs.foldl stripLot (l, h)).1.map lotWorth).sum = (l.map lotWorth).sum + (xs.map fun x => x.2 * lprice l x.1).sum
  | [], l, h, _ => ⟨rfl, fun j x hx => ⟨x, hx, rfl, rfl, Int.le_refl _⟩, (Int.add_zero _).symm, (Int.add_zero _).symm⟩
  | x :: xs, l, h, hl => by
    obtain ⟨hx, hx2⟩ := hl x (.head _)
    obtain ⟨y, hy⟩ : ∃ y, l[x.1]? = some y := ⟨_, List.getElem?_eq_getElem hx⟩
    have e : stripLot (l, h) x = (l.set x.1 { y with left := y.left + x.2 }, h + x.2 * y.price) := by unfold stripLot; dsimp only; rw [hy]
    have ep : ∀ j, lprice (l.set x.1 { y with left := y.left + x.2 }) j = lprice l j := fun j => by
      unfold lprice
      by_cases hj : j = x.1
      · subst hj; rw [List.getElem?_set_self hx, hy]; rfl
      · rw [List.getElem?_set_ne (Ne.symm hj)]
    have e1 : lprice l x.1 = y.price := by unfold lprice; rw [hy]; rfl
    obtain ⟨a1, a2, a3, a4⟩ := stripLots xs (l.set x.1 { y with left := y.left + x.2 }) (h + x.2 * y.price) fun z hz => by rw [List.length_set]; exact hl z (.tail _ hz)
    have es : (xs.map fun z => z.2 * lprice (l.set x.1 { y with left := y.left + x.2 }) z.1) = xs.map fun z => z.2 * lprice l z.1 := List.map_congr_left fun z _ => by rw [ep]
    rw [es] at a3 a4
    rw [List.foldl_cons, e]
    refine ⟨by rw [a1, List.length_set], fun j w hw => ?_, ?_, ?_⟩
    · by_cases hj : j = x.1
      · subst hj
        rw [hy] at hw
        cases hw
        obtain ⟨u, u1, u2, u3, u4⟩ := a2 x.1 _ (List.getElem?_set_self hx)
        exact ⟨u, u1, u2, u3, by dsimp only at u4; omega⟩
      · exact a2 j w (by rw [List.getElem?_set_ne (Ne.symm hj)]; exact hw)
    · rw [a3, List.map_cons, List.sum_cons, e1]
      omega
    · rw [a4, sum_set lotWorth hy, List.map_cons, List.sum_cons, e1]
      have : lotWorth { y with left := y.left + x.2 } = y.left * y.price + x.2 * y.price := Int.add_mul ..
      rw [this]
      show _ - y.left * y.price + _ + _ = _
      omega
def mkFree (q : Pc) : Pc := { q with state := "made", above := none }
def lcost (l : List Pc) (k : Nat) : Int := ((l[k]?).map (·.cost)).getD 0
theorem stripPcs : ∀ (ks : List Nat) (l : List Pc) (h : Int), ks.Nodup → (∀ k ∈ ks, ∃ q, l[k]? = some q ∧ q.state = "within") →
    (ks.foldl stripPc (l, h)).1.length = l.length ∧ (∀ i, (ks.foldl stripPc (l, h)).1[i]? = if i ∈ ks then (l[i]?).map mkFree else l[i]?) ∧
      (ks.foldl stripPc (l, h)).2 = h + (ks.map (lcost l)).sum ∧ ((ks.foldl stripPc (l, h)).1.map topCost).sum = (l.map topCost).sum + (ks.map (lcost l)).sum
  | [], l, h, _, _ => ⟨rfl, fun i => by simp, (Int.add_zero _).symm, (Int.add_zero _).symm⟩
  | k :: ks, l, h, nd, hl => by
    obtain ⟨n1, n2⟩ := List.nodup_cons.mp nd
    obtain ⟨q, hq, hw⟩ := hl k (.head _)
    have lk := (List.getElem?_eq_some_iff.mp hq).1
    have e : stripPc (l, h) k = (l.set k (mkFree q), h + q.cost) := by unfold stripPc; dsimp only; rw [hq]; rfl
    have oth : ∀ i, i ≠ k → (l.set k (mkFree q))[i]? = l[i]? := fun i hi => List.getElem?_set_ne (Ne.symm hi)
    obtain ⟨a1, a2, a3, a4⟩ := stripPcs ks (l.set k (mkFree q)) (h + q.cost) n2 fun k' hk' => by
      obtain ⟨q', h1, h2⟩ := hl k' (.tail _ hk')
      exact ⟨q', by rw [oth k' (fun z => n1 (z ▸ hk'))]; exact h1, h2⟩
    have es : ks.map (lcost (l.set k (mkFree q))) = ks.map (lcost l) := List.map_congr_left fun z hz => by unfold lcost; rw [oth z (fun y => n1 (y ▸ hz))]
    have e1 : lcost l k = q.cost := by unfold lcost; rw [hq]; rfl
    rw [es] at a3 a4
    rw [List.foldl_cons, e]
    refine ⟨by rw [a1, List.length_set], fun i => ?_, ?_, ?_⟩
    · rw [a2]
      by_cases hi : i = k
      · subst hi
        rw [if_neg n1, if_pos (.head _), List.getElem?_set_self lk, hq]
        rfl
      · rw [oth i hi]
        by_cases hm : i ∈ ks
        · rw [if_pos hm, if_pos (.tail _ hm)]
        · rw [if_neg hm, if_neg fun z => by rcases List.mem_cons.mp z with z | z; exact hi z; exact hm z]
    · rw [a3, List.map_cons, List.sum_cons, e1]
      omega
    · rw [a4, sum_set topCost hq, List.map_cons, List.sum_cons, e1]
      have t1 : topCost q = 0 := if_pos hw
      have t2 : topCost (mkFree q) = q.cost := if_neg made_ne
      rw [t1, t2]
      omega
end PM

namespace PM
open PySem L2 WK
theorem FlI.strip {fs : Fl} (I : FlI fs) {k : Nat} {p : Pc} (hp : fs.pcs[k]? = some p) (hps : p.state = "bad") : FlI (fs.strip k p) ∧ (fs.strip k p).lost = fs.lost + p.own := by
  have hpw : p.state ≠ "within" := by rw [hps]; decide
  have O := I.pc k p hp
  have lk := (List.getElem?_eq_some_iff.mp hp).1
  have hab := I.above_none hp hpw
  have hin : ∀ x ∈ pcsOf p.holds, ∃ q, fs.pcs[x]? = some q ∧ q.state = "within" := fun x hx => by
    obtain ⟨q, h1, h2⟩ := O.held x hx
    exact ⟨q, h1, I.within h1 h2⟩
  obtain ⟨a1, a2, a3, a4⟩ := stripLots (lotsOf p.holds) fs.lots 0 fun x hx => by
    obtain ⟨h1, h2, _⟩ := O.lots x hx
    exact ⟨h1, by omega⟩
  obtain ⟨b1, b2, b3, b4⟩ := stripPcs (pcsOf p.holds) fs.pcs ((lotsOf p.holds).foldl stripLot (fs.lots, 0)).2 O.nd hin
  have hnk : k ∉ pcsOf p.holds := I.nobody hp hpw hp
  have hcost : p.cost = p.own + (((lotsOf p.holds).map fun x => x.2 * lprice fs.lots x.1).sum + ((pcsOf p.holds).map (lcost fs.pcs)).sum) := by
    have := O.cost
    rw [hold_sum] at this
    exact this
  have hlost : (fs.strip k p).lost = fs.lost + p.own := by
    show fs.lost + (p.cost - _) = _
    rw [b3, a3, hcost]
    omega
  refine ⟨?_, hlost⟩
  let ls := ((lotsOf p.holds).foldl stripLot (fs.lots, 0)).1
  let ps := ((pcsOf p.holds).foldl stripPc (fs.pcs, ((lotsOf p.holds).foldl stripLot (fs.lots, 0)).2)).1
  let p' : Pc := { p with cost := 0, holds := [], state := "stripped", own := 0 }
  have hlots : (fs.strip k p).lots = ls := rfl
  have hpcs : (fs.strip k p).pcs = ps.set k p' := rfl
  have hkps : k < ps.length := by rw [show ps.length = _ from b1]; exact lk
  have look : ∀ i, (fs.strip k p).pcs[i]? = if i = k then some p' else if i ∈ pcsOf p.holds then (fs.pcs[i]?).map mkFree else fs.pcs[i]? := fun i => by
    rw [hpcs]
    by_cases h : i = k
    · subst h; rw [List.getElem?_set_self hkps, if_pos rfl]
    · rw [List.getElem?_set_ne (Ne.symm h), if_neg h]
      exact b2 i
  have pr : ∀ i, (fs.strip k p).price i = fs.price i := fun i => by
    unfold Fl.price
    rw [hlots]
    cases e : fs.lots[i]? with
    | none =>
      have : ls[i]? = none := List.getElem?_eq_none_iff.mpr (by rw [show ls.length = _ from a1]; exact List.getElem?_eq_none_iff.mp e)
      rw [this]
    | some x =>
      obtain ⟨y, y1, _, y3, _⟩ := a2 i x e
      rw [show ls[i]? = some y from y1]
      exact y3
  -- what others hold stays as it is
  have keep : ∀ (j : Nat) (a a' : Pc), fs.pcs[j]? = some a → j ≠ k → a'.part = a.part → a'.holds = a.holds → a'.at_ = a.at_ → a'.cost = a.cost → a'.own = a.own → a'.state ∈ stList → (a'.above = none ↔ a'.state ≠ "within") →
      (∀ k', a'.above = some k' → ∃ q2, (fs.strip k p).pcs[k']? = some q2 ∧ j ∈ pcsOf q2.holds) → PcOk (fs.strip k p) j a' := fun j a a' ha hj g1 g2 g3 g4 g5 g6 g7 g8 =>
    (I.pc j a ha).keep rfl a1 pr g1 g2 g3 g4 g5 g6 g7 (fun k' hk' q2 h1 h2 => by
      have m1 : k' ≠ k := fun z => I.nobody hp hpw ha (z ▸ hk')
      have m2 : k' ∉ pcsOf p.holds := fun z => by
        obtain ⟨q3, h3, h4⟩ := O.held k' z
        rw [h1] at h3
        cases h3
        rw [h2] at h4
        exact hj (Option.some.inj h4)
      exact ⟨q2, by rw [look, if_neg m1, if_neg m2]; exact h1, rfl, h2, rfl⟩) g8
  refine ⟨I.good, I.six, I.rate, fun j a ha => ?_, fun j y hy => ?_, ?_, ?_⟩
  · rw [look] at ha
    by_cases h1 : j = k
    · rw [if_pos h1] at ha
      cases ha
      subst h1
      obtain ⟨rr, r1, r2, r3, r4, r5⟩ := O.row
      exact ⟨⟨rr, r1, r2, r3, r4, fun x hx => nomatch hx⟩, in_stripped, ⟨fun _ => by show ("stripped" : Str) ≠ "within"; decide, fun _ => hab⟩, (fun x hx => nomatch hx), (fun k' hk' => absurd (show p.above = some k' from hk') (by rw [hab]; exact fun z => nomatch z)), List.nodup_nil, List.nodup_nil, (fun x hx => nomatch hx), rfl, Nat.zero_le _, Int.le_refl _⟩
    · rw [if_neg h1] at ha
      by_cases h2 : j ∈ pcsOf p.holds
      · rw [if_pos h2] at ha
        obtain ⟨q, hq, e⟩ := Option.map_eq_some_iff.mp ha
        subst e
        exact keep j q (mkFree q) hq h1 rfl rfl rfl rfl rfl in_made ⟨fun _ => made_ne, fun _ => rfl⟩ fun k' hk' => nomatch hk'
      · rw [if_neg h2] at ha
        have Oa := I.pc j a ha
        refine keep j a a ha h1 rfl rfl rfl rfl rfl Oa.st Oa.up fun k' hk' => ?_
        obtain ⟨q2, g1, g2⟩ := Oa.upper k' hk'
        by_cases e1 : k' = k
        · subst e1; rw [hp] at g1; cases g1; exact absurd g2 h2
        · by_cases e2 : k' ∈ pcsOf p.holds
          · exact ⟨mkFree q2, by rw [look, if_neg e1, if_pos e2, g1]; rfl, g2⟩
          · exact ⟨q2, by rw [look, if_neg e1, if_neg e2]; exact g1, g2⟩
  · replace hy : ls[j]? = some y := hy
    obtain ⟨x, hx⟩ : ∃ x, fs.lots[j]? = some x := ⟨_, List.getElem?_eq_getElem (by rw [← show ls.length = _ from a1]; exact (List.getElem?_eq_some_iff.mp hy).1)⟩
    obtain ⟨y', y1, y2, y3, y4⟩ := a2 j x hx
    rw [hy] at y1
    cases y1
    obtain ⟨l1, l2, l3, l4⟩ := I.lot j x hx
    exact ⟨by omega, by omega, by omega, by rw [y2]; exact l4⟩
  · have hmn := I.money
    unfold Fl.worth at hmn ⊢
    show fs.spent = (ls.map lotWorth).sum + ((ps.set k p').map topCost).sum + (fs.strip k p).lost
    have hkp : ps[k]? = some p := by
      rw [show ps[k]? = _ from b2 k, if_neg hnk]
      exact hp
    rw [sum_set topCost hkp, show (ls.map lotWorth).sum = _ from a4, show (ps.map topCost).sum = _ from b4, hlost]
    have t1 : topCost p = p.cost := if_neg hpw
    have t2 : topCost p' = 0 := if_neg (by show ("stripped" : Str) ≠ "within"; decide)
    rw [t1, t2, hcost]
    omega
  · show ls.length + (ps.set k p').length ≤ (fs.book ++ [_]).length
    rw [List.length_set, show ls.length = _ from a1, show ps.length = _ from b1, List.length_append]
    have := I.few
    omega
theorem making_ne : ("making" : Str) ≠ "within" := by decide
theorem making_ns : ("making" : Str) ≠ "stock" := by decide
theorem within_nm : ("within" : Str) ≠ "making" := by decide
theorem made_nm : ("made" : Str) ≠ "making" := by decide
theorem bad_nm : ("bad" : Str) ≠ "making" := by decide
theorem stock_nm : ("stock" : Str) ≠ "making" := by decide
theorem stripped_nm : ("stripped" : Str) ≠ "making" := by decide
theorem scrap_nm : ("scrap" : Str) ≠ "making" := by decide
theorem sold_nm : ("sold" : Str) ≠ "making" := by decide
/-! a piece begun -/
theorem FlI.addPc {fs : Fl} (I : FlI fs) {z : Str} {r : PRow} (hr : PM.rowOf fs.rs z = some r) (hnb : (r.needs.isEmpty && r.steps.isEmpty) = false) (d : Deed) : FlI { fs with pcs := fs.pcs ++ [newPc z], book := fs.book ++ [d] } := by
  have look : ∀ i, i < fs.pcs.length → (fs.pcs ++ [newPc z])[i]? = fs.pcs[i]? := fun i hi => List.getElem?_append_left hi
  refine ⟨I.good, I.six, I.rate, fun j a ha => ?_, I.lot, ?_, ?_⟩
  · replace ha : (fs.pcs ++ [newPc z])[j]? = some a := ha
    by_cases h : j < fs.pcs.length
    · rw [look j h] at ha
      have Oa := I.pc j a ha
      refine Oa.keep rfl rfl (fun _ => rfl) rfl rfl rfl rfl rfl Oa.st Oa.up (fun k' hk' q2 g1 g2 => ⟨q2, ?_, rfl, g2, rfl⟩) fun k' hk' => ?_
      · show (fs.pcs ++ [newPc z])[k']? = _
        rw [look k' (List.getElem?_eq_some_iff.mp g1).1]
        exact g1
      · obtain ⟨q2, g1, g2⟩ := Oa.upper k' hk'
        exact ⟨q2, by show (fs.pcs ++ [newPc z])[k']? = _; rw [look k' (List.getElem?_eq_some_iff.mp g1).1]; exact g1, g2⟩
    · have hj : j = fs.pcs.length := by
        have := (List.getElem?_eq_some_iff.mp ha).1
        rw [List.length_append, List.length_singleton] at this
        omega
      subst hj
      rw [List.getElem?_append_right (Nat.le_refl _), Nat.sub_self] at ha
      cases ha
      exact ⟨⟨r, hr, hnb, Int.le_refl _, by show (0 : Int) ≤ _; omega, fun x hx => nomatch hx⟩, (by decide : ("making" : Str) ∈ stList), ⟨fun _ => by show ("making" : Str) ≠ "within"; decide, fun _ => rfl⟩, (fun x hx => nomatch hx), (fun k' hk' => nomatch hk'), List.nodup_nil, List.nodup_nil, (fun x hx => nomatch hx), rfl, Nat.zero_le _, Int.le_refl _⟩
  · have hmn := I.money
    unfold Fl.worth at hmn ⊢
    dsimp only
    rw [List.map_append, List.sum_append]
    have : (List.map topCost [newPc z]).sum = 0 := rfl
    rw [this]
    omega
  · show fs.lots.length + (fs.pcs ++ [newPc z]).length ≤ (fs.book ++ [d]).length
    rw [List.length_append, List.length_append, List.length_singleton, List.length_singleton]
    have := I.few
    omega
theorem give_book (n : Nat) (h : Hold) (fs : Fl) (b : List Deed) : ({ fs with book := b } : Fl).give n h = { fs.give n h with book := b } := by
  unfold Fl.give
  cases h with
  | lot j m =>
    dsimp only
    cases fs.lots[j]? <;> cases fs.pcs[n]? <;> rfl
  | pc k =>
    dsimp only
    cases fs.pcs[k]? <;> cases fs.pcs[n]? <;> rfl
theorem giveAll_book (n : Nat) : ∀ (hs : List Hold) (fs : Fl) (b : List Deed), ({ fs with book := b } : Fl).giveAll n hs = { fs.giveAll n hs with book := b }
  | [], fs, b => rfl
  | h :: hs, fs, b => by
    show (({ fs with book := b } : Fl).give n h).giveAll n hs = { (fs.give n h).giveAll n hs with book := b }
    rw [give_book, giveAll_book n hs]
theorem modify_at {α : Type} {l : List α} {k : Nat} {x : α} {f : α → α} (h : l[k]? = some x) : l.modify k f = l.set k (f x) := by
  apply List.ext_getElem?
  intro j
  rw [List.getElem?_modify, List.getElem?_set]
  by_cases e : k = j
  · subst e
    have hk := (List.getElem?_eq_some_iff.mp h).1
    have e2 := (List.getElem?_eq_some_iff.mp h).2
    simp [h, hk, e2]
  · simp [e]
theorem good_needs {rs : List PRow} (G : GoodBook rs) {z : Str} {r : PRow} (h : PM.rowOf rs z = some r) : r.needs.length ≤ 12 ∧ (r.needs.map (·.1)).Nodup ∧ (∀ x ∈ r.needs, 1 ≤ x.2 ∧ x.2 ≤ 9) ∧ r.steps.length ≤ 5 ∧ ∀ x ∈ r.steps, (0 ≤ x.1 ∧ x.1 < 6) ∧ 1 ≤ x.2 ∧ x.2 ≤ 99 := by
  obtain ⟨hm, hn⟩ := rowOf_mem h
  obtain ⟨i, hi⟩ := List.getElem?_of_mem hm
  have R := G.row i r hi
  refine ⟨?_, R.nd, R.many, R.few, R.steps⟩
  have := nodup_sub_length R.nd (l' := (rs.take i).map (·.name)) (by
    intro x hx
    obtain ⟨y, hy, rfl⟩ := List.mem_map.mp hx
    exact R.known y hy)
  rw [List.length_map, List.length_map, List.length_take] at this
  have := G.len
  omega
theorem FlOk.begin_ {fs : Fl} (I : FlOk fs) {z : Str} {r : PRow} (hr : PM.rowOf fs.rs z = some r) (hnb : (r.needs.isEmpty && r.steps.isEmpty) = false) (hl : fs.lacking r.needs = none) :
    FlOk (fs.begin_ z r.steps.isEmpty (fs.takes r.needs).flatten) ∧ PutOk { fs with pcs := fs.pcs ++ [newPc z] } fs.pcs.length (newPc z) (fs.takes r.needs).flatten := by
  obtain ⟨g1, g2, g3, g4, g5⟩ := good_needs I.i.good hr
  obtain ⟨T, tl⟩ := takes_ok (fs := fs) g2 g3 (lacking_none hl)
  generalize hhs : (fs.takes r.needs).flatten = hs at T tl
  have I0 := I.i.addPc hr hnb (.begin_ z)
  have h0 : (fs.pcs ++ [newPc z])[fs.pcs.length]? = some (newPc z) := List.getElem?_concat_length
  have P0 : PutOk { fs with pcs := fs.pcs ++ [newPc z] } fs.pcs.length (newPc z) hs := by
    refine ⟨fun k hk => ?_, T.nd, fun x hx => ?_, T.ndl, by show 0 + hs.length ≤ 200; omega⟩
    · obtain ⟨q, q1, q2, q3⟩ := T.pc k hk
      refine ⟨q, ?_, q2, fun r' hr' => ?_⟩
      · show (fs.pcs ++ [newPc z])[k]? = _
        rw [List.getElem?_append_left (List.getElem?_eq_some_iff.mp q1).1]
        exact q1
      · have : r' = r := Option.some.inj (hr'.symm.trans hr)
        rw [this]
        exact q3
    · obtain ⟨l, l1, _, l3⟩ := T.lot x hx
      exact ⟨l, l1, l3⟩
  have P1 : PutOk { fs with pcs := fs.pcs ++ [newPc z], book := fs.book ++ [.begin_ z] } fs.pcs.length (newPc z) hs := ⟨P0.pc, P0.nd, P0.lot, P0.ndl, P0.len⟩
  obtain ⟨J, j1, j2, ⟨c, j3⟩, j4⟩ := FlI.giveAll I0 h0 making_ne making_ns P1
  refine ⟨?_, P0⟩
  have fr := giveAll_frame fs.pcs.length hs { fs with pcs := fs.pcs ++ [newPc z], book := fs.book ++ [.begin_ z] }
  have eb : ({ fs with pcs := fs.pcs ++ [newPc z], book := fs.book ++ [.begin_ z] } : Fl).giveAll fs.pcs.length hs = { ({ fs with pcs := fs.pcs ++ [newPc z] } : Fl).giveAll fs.pcs.length hs with book := fs.book ++ [.begin_ z] } := giveAll_book fs.pcs.length hs { fs with pcs := fs.pcs ++ [newPc z] } _
  have fb := (giveAll_frame fs.pcs.length hs { fs with pcs := fs.pcs ++ [newPc z] }).2.2.1
  generalize hG : ({ fs with pcs := fs.pcs ++ [newPc z], book := fs.book ++ [.begin_ z] } : Fl).giveAll fs.pcs.length hs = G at J j1 j2 j3 j4 eb fr
  have ebeg : fs.begin_ z r.steps.isEmpty hs = { G with pcs := if r.steps.isEmpty = true then G.pcs.set fs.pcs.length { newPc z with holds := (newPc z).holds ++ hs, cost := c, state := "made" } else G.pcs } := by
    unfold Fl.begin_
    dsimp only
    rw [fb]
    rw [eb] at j3 ⊢
    dsimp only at j3 ⊢
    rw [modify_at j3]
  rw [ebeg]
  have hns : G.nSteps (newPc z) = r.steps.length := by
    unfold Fl.nSteps
    rw [fr.1]
    show (match PM.rowOf fs.rs z with | some r => r.steps.length | none => 0) = _
    rw [hr]
  have oth : ∀ (i : Nat) (q' : Pc), i ≠ fs.pcs.length → G.pcs[i]? = some q' → q'.state = "making" → q'.at_ < G.nSteps q' := fun i q' hi hq' hm => by
    have hil : i < fs.pcs.length := by
      have := (List.getElem?_eq_some_iff.mp hq').1
      rw [j1] at this
      have h2 : (fs.pcs ++ [newPc z]).length = fs.pcs.length + 1 := by rw [List.length_append]; rfl
      rw [h2] at this
      omega
    obtain ⟨q, hq⟩ : ∃ q, fs.pcs[i]? = some q := ⟨_, List.getElem?_eq_getElem hil⟩
    obtain ⟨q'', e1, e2, e3, e4⟩ := j4 i q hi (by show (fs.pcs ++ [newPc z])[i]? = _; rw [List.getElem?_append_left hil]; exact hq)
    rw [hq'] at e1
    cases e1
    rcases e4 with e4 | e4
    · have hm2 : q.state = "making" := by rw [← e4]; exact hm
      have := I.mak i q hq hm2
      have en : G.nSteps q' = fs.nSteps q := by unfold Fl.nSteps; rw [e2, fr.1]
      rw [en, e3]
      exact this
    · rw [e4] at hm
      exact absurd hm (by decide)
  by_cases hs0 : r.steps.isEmpty = true
  · rw [if_pos hs0]
    have ln := (List.getElem?_eq_some_iff.mp j3).1
    refine ⟨?_, fun i q hq hm => ?_⟩
    · exact J.upd1 j3 (p' := { newPc z with holds := (newPc z).holds ++ hs, cost := c, state := "made" }) making_ne rfl rfl rfl in_made made_ne rfl (Int.le_refl _) ⟨Int.le_refl _, by show (0 : Int) ≤ _; omega⟩ (sp := G.spent) (bk := G.book) (by show _ = c - c; omega) (Nat.le_refl _)
    · replace hq : (G.pcs.set fs.pcs.length { newPc z with holds := (newPc z).holds ++ hs, cost := c, state := "made" })[i]? = some q := hq
      by_cases hi : i = fs.pcs.length
      · subst hi
        rw [List.getElem?_set_self ln] at hq
        cases hq
        exact absurd hm made_nm
      · rw [List.getElem?_set_ne (Ne.symm hi)] at hq
        exact oth i q hi hq hm
  · rw [if_neg hs0]
    refine ⟨J, fun i q hq hm => ?_⟩
    by_cases hi : i = fs.pcs.length
    · subst hi
      replace hq : G.pcs[fs.pcs.length]? = some q := hq
      rw [j3] at hq
      cases hq
      show (0 : Int) < (G.nSteps (newPc z) : Int)
      rw [hns]
      cases e : r.steps with
      | nil => rw [e] at hs0; exact absurd rfl hs0
      | cons a l => simp only [List.length_cons]; omega
    · exact oth i q hi hq hm
end PM

namespace PM
open PySem L2 WK
theorem nSteps_eq {fs fs' : Fl} {p q : Pc} (h1 : fs'.rs = fs.rs) (h2 : p.part = q.part) : fs'.nSteps p = fs.nSteps q := by unfold Fl.nSteps; rw [h1, h2]
theorem FlOk.upd1 {fs : Fl} (I : FlOk fs) {k : Nat} {p p' : Pc} (hp : fs.pcs[k]? = some p) (hw : p.state ≠ "within") (e1 : p'.part = p.part) (e2 : p'.holds = p.holds) (e3 : p'.above = p.above) (hs : p'.state ∈ stList) (hw' : p'.state ≠ "within")
    (hc : p'.cost - p'.own = p.cost - p.own) (ho : 0 ≤ p'.own) (ha : 0 ≤ p'.at_ ∧ p'.at_ ≤ fs.nSteps p) {sp : Int} {bk : List Deed} (hsp : sp - fs.spent = p'.cost - p.cost) (hb : fs.book.length ≤ bk.length) (hm : p'.state = "making" → p'.at_ < fs.nSteps p) : FlOk { fs with pcs := fs.pcs.set k p', spent := sp, book := bk } := by
  refine ⟨I.i.upd1 hp hw e1 e2 e3 hs hw' hc ho ha hsp hb, fun i q hq => ?_⟩
  replace hq : (fs.pcs.set k p')[i]? = some q := hq
  by_cases hi : i = k
  · subst hi
    rw [List.getElem?_set_self (List.getElem?_eq_some_iff.mp hp).1] at hq
    cases hq
    intro hmk
    rw [nSteps_eq (fs := fs) (fs' := { fs with pcs := fs.pcs.set i p', spent := sp, book := bk }) (q := p) rfl e1]
    exact hm hmk
  · rw [List.getElem?_set_ne (Ne.symm hi)] at hq
    exact I.mak i q hq
theorem FlI.nSteps {fs : Fl} (I : FlI fs) {k : Nat} {p : Pc} (hp : fs.pcs[k]? = some p) : ∃ r, PM.rowOf fs.rs p.part = some r ∧ fs.nSteps p = r.steps.length ∧ 0 ≤ p.at_ ∧ p.at_ ≤ fs.nSteps p ∧ fs.nSteps p ≤ 5 := by
  obtain ⟨r, r1, r2, r3, r4, r5⟩ := (I.pc k p hp).row
  have e : fs.nSteps p = r.steps.length := by unfold Fl.nSteps; rw [r1]
  refine ⟨r, r1, e, r3, by rw [e]; exact r4, ?_⟩
  rw [e]
  exact (good_needs I.good r1).2.2.2.1
/-- a deed of a piece that keeps its costs -/
theorem FlOk.put {fs : Fl} (I : FlOk fs) {k : Nat} {p p' : Pc} (d : Deed) (hp : fs.pcs[k]? = some p) (hw : p.state ≠ "within") (e1 : p'.part = p.part) (e2 : p'.holds = p.holds) (e3 : p'.above = p.above) (e4 : p'.cost = p.cost) (e5 : p'.own = p.own) (hs : p'.state ∈ stList) (hw' : p'.state ≠ "within")
    (ha : 0 ≤ p'.at_ ∧ p'.at_ ≤ fs.nSteps p) (hm : p'.state = "making" → p'.at_ < fs.nSteps p) : FlOk (fs.put k p' d) :=
  I.upd1 hp hw e1 e2 e3 hs hw' (by rw [e4, e5]) (by rw [e5]; exact (I.i.pc k p hp).own) ha (sp := fs.spent) (bk := fs.book ++ [d]) (by rw [e4]; omega) (by rw [List.length_append]; omega) hm
theorem FlOk.work {fs : Fl} (I : FlOk fs) {k : Nat} {p : Pc} (hp : fs.pcs[k]? = some p) (hst : p.state = "making") {c : Int} (hc : 0 ≤ c) : FlOk (fs.work k p c (fs.nSteps p)) := by
  obtain ⟨r, r1, r2, r3, r4, r5⟩ := I.i.nSteps hp
  have hmk := I.mak k p hp hst
  have hst2 : (p.work c (fs.nSteps p)).state = if p.at_ + 1 = (fs.nSteps p : Int) then ("made" : Str) else p.state := rfl
  refine I.upd1 (p' := p.work c (fs.nSteps p)) hp (by rw [hst]; exact making_ne) rfl rfl rfl ?_ ?_ ?_ ?_ ?_ ?_ ?_ ?_
  · rw [hst2, hst]; split
    · exact in_made
    · decide
  · rw [hst2, hst]; split
    · exact made_ne
    · exact making_ne
  · show p.cost + c - (p.own + c) = _; omega
  · show 0 ≤ p.own + c; have := (I.i.pc k p hp).own; omega
  · show 0 ≤ p.at_ + 1 ∧ p.at_ + 1 ≤ _; omega
  · show fs.spent + c - fs.spent = p.cost + c - p.cost; omega
  · rw [List.length_append]; omega
  · intro h
    show p.at_ + 1 < _
    rw [hst2] at h
    by_cases e : p.at_ + 1 = (fs.nSteps p : Int)
    · rw [if_pos e] at h; exact absurd h made_nm
    · omega
theorem FlOk.swap {fs : Fl} (I : FlOk fs) {k o n : Nat} {p q r : Pc} (hp : fs.pcs[k]? = some p) (hq : fs.pcs[o]? = some q) (hr : fs.pcs[n]? = some r) (hps : p.state = "bad") (hrs : r.state = "stock") (hm : o ∈ pcsOf p.holds) (hpt : r.part = q.part) : FlOk (fs.swap k o n p q r) := by
  refine ⟨I.i.swap hp hq hr hps hrs hm hpt, fun i a ha hmk => ?_⟩
  replace ha : (((fs.pcs.set k { p with holds := replPc o n p.holds, cost := p.cost + (r.cost - q.cost), state := "made" }).set o { q with state := "bad", above := none }).set n { r with state := "within", above := some k })[i]? = some a := ha
  by_cases h1 : i = n
  · subst h1
    rw [List.getElem?_set_self (by rw [List.length_set, List.length_set]; exact (List.getElem?_eq_some_iff.mp hr).1)] at ha
    cases ha
    exact absurd hmk within_nm
  · rw [List.getElem?_set_ne (Ne.symm h1)] at ha
    by_cases h2 : i = o
    · subst h2
      rw [List.getElem?_set_self (by rw [List.length_set]; exact (List.getElem?_eq_some_iff.mp hq).1)] at ha
      cases ha
      exact absurd hmk bad_nm
    · rw [List.getElem?_set_ne (Ne.symm h2)] at ha
      by_cases h3 : i = k
      · subst h3
        rw [List.getElem?_set_self (List.getElem?_eq_some_iff.mp hp).1] at ha
        cases ha
        exact absurd hmk made_nm
      · rw [List.getElem?_set_ne (Ne.symm h3)] at ha
        exact I.mak i a ha hmk
theorem FlOk.strip {fs : Fl} (I : FlOk fs) {k : Nat} {p : Pc} (hp : fs.pcs[k]? = some p) (hps : p.state = "bad") : FlOk (fs.strip k p) := by
  refine ⟨(I.i.strip hp hps).1, fun i a ha hmk => ?_⟩
  have hin : ∀ x ∈ pcsOf p.holds, ∃ q, fs.pcs[x]? = some q ∧ q.state = "within" := fun x hx => by
    obtain ⟨q, h1, h2⟩ := (I.i.pc k p hp).held x hx
    exact ⟨q, h1, I.i.within h1 h2⟩
  obtain ⟨b1, b2, b3, b4⟩ := stripPcs (pcsOf p.holds) fs.pcs ((lotsOf p.holds).foldl stripLot (fs.lots, 0)).2 (I.i.pc k p hp).nd hin
  replace ha : ((((pcsOf p.holds).foldl stripPc (fs.pcs, ((lotsOf p.holds).foldl stripLot (fs.lots, 0)).2)).1).set k { p with cost := 0, holds := [], state := "stripped", own := 0 })[i]? = some a := ha
  by_cases h3 : i = k
  · subst h3
    rw [List.getElem?_set_self (by rw [b1]; exact (List.getElem?_eq_some_iff.mp hp).1)] at ha
    cases ha
    exact absurd hmk stripped_nm
  · rw [List.getElem?_set_ne (Ne.symm h3), b2] at ha
    by_cases h4 : i ∈ pcsOf p.holds
    · rw [if_pos h4] at ha
      obtain ⟨q, hq, e⟩ := Option.map_eq_some_iff.mp ha
      subst e
      exact absurd hmk made_nm
    · rw [if_neg h4] at ha
      exact I.mak i a ha hmk
theorem FlOk.buy {fs : Fl} (I : FlOk fs) {z : Str} {m pr : Int} (hz : isBought fs.rs z = true) (hm : 0 ≤ m) (hp : 0 ≤ pr ∧ pr ≤ 9999) : FlOk (fs.buy z m pr) := by
  have look : ∀ i, i < fs.lots.length → (fs.lots ++ [⟨z, m, pr⟩])[i]? = fs.lots[i]? := fun i hi => List.getElem?_append_left hi
  refine ⟨⟨I.i.good, I.i.six, I.i.rate, fun k p h => ?_, fun j x hx => ?_, ?_, ?_⟩, I.mak⟩
  · have O := I.i.pc k p h
    refine ⟨O.row, O.st, O.up, O.held, O.upper, O.nd, O.ndl, fun x hx => ?_, ?_, O.len, O.own⟩
    · obtain ⟨h1, h2⟩ := O.lots x hx
      refine ⟨?_, h2⟩
      show x.1 < (fs.lots ++ [_]).length
      rw [List.length_append]
      omega
    · rw [holdCost_congr (fs := fs) (fs' := fs.buy z m pr) (fun x hx => ?_) fun _ _ => rfl]
      · exact O.cost
      · unfold Fl.price
        show (((fs.lots ++ [⟨z, m, pr⟩])[x.1]?).map (·.price)).getD 0 = _
        rw [look x.1 (O.lots x hx).1]
  · replace hx : (fs.lots ++ [⟨z, m, pr⟩])[j]? = some x := hx
    by_cases h : j < fs.lots.length
    · rw [look j h] at hx
      exact I.i.lot j x hx
    · have hj : j = fs.lots.length := by
        have := (List.getElem?_eq_some_iff.mp hx).1
        rw [List.length_append, List.length_singleton] at this
        omega
      subst hj
      rw [List.getElem?_append_right (Nat.le_refl _), Nat.sub_self] at hx
      cases hx
      exact ⟨hm, hp.1, hp.2, hz⟩
  · have := I.i.money
    unfold Fl.worth at this ⊢
    show fs.spent + m * pr = ((fs.lots ++ [_]).map lotWorth).sum + _ + _
    rw [List.map_append, List.sum_append]
    have e : (List.map lotWorth [⟨z, m, pr⟩]).sum = m * pr := Int.add_zero _
    rw [e]
    show _ = _ + (fs.pcs.map topCost).sum + fs.lost
    omega
  · show (fs.lots ++ [_]).length + fs.pcs.length ≤ (fs.book ++ [_]).length
    rw [List.length_append, List.length_append, List.length_singleton, List.length_singleton]
    have := I.i.few
    omega
theorem pcAt_some {fs : Fl} {k : Int} {p : Pc} (h : fs.pcAt k = some p) : 0 ≤ k ∧ fs.pcs[k.toNat]? = some p := by
  unfold Fl.pcAt at h
  split at h
  · exact ⟨by assumption, h⟩
  · cases h
theorem FlOk.step {fs : Fl} (I : FlOk fs) {k : Nat} {p : Pc} (hp : fs.pcs[k]? = some p) (hst : p.state = "making") : ∃ (r : PRow) (j mc : Nat) (mi rate : Int), PM.rowOf fs.rs p.part = some r ∧ p.at_ = (j : Int) ∧ r.steps[j]? = some ((mc : Int), mi) ∧ fs.rates[mc]? = some rate ∧ fs.stepAt p = ((mc : Int), mi) ∧ fs.rateOf (mc : Int) = rate ∧ fs.nSteps p = r.steps.length ∧ 0 ≤ mi * rate ∧ mi ≤ 99 ∧ 1 ≤ mi ∧ 0 ≤ rate ∧ rate ≤ 99 := by
  obtain ⟨r, r1, r2, r3, r4, r5⟩ := I.i.nSteps hp
  have hmk := I.mak k p hp hst
  rw [r2] at hmk
  obtain ⟨j, hj⟩ : ∃ j : Nat, p.at_ = (j : Int) := ⟨p.at_.toNat, by omega⟩
  obtain ⟨⟨mcI, mi⟩, hs⟩ : ∃ y, r.steps[j]? = some y := ⟨_, List.getElem?_eq_getElem (by omega)⟩
  obtain ⟨⟨s1, s2⟩, s3, s4⟩ := (good_needs I.i.good r1).2.2.2.2 _ (List.mem_of_getElem? hs)
  dsimp only at s1 s2 s3 s4
  obtain ⟨mc, rfl⟩ : ∃ mc : Nat, mcI = (mc : Int) := ⟨mcI.toNat, by omega⟩
  obtain ⟨rate, hr⟩ : ∃ y, fs.rates[mc]? = some y := ⟨_, List.getElem?_eq_getElem (by rw [I.i.six]; omega)⟩
  obtain ⟨t1, t2⟩ := I.i.rate rate (List.mem_of_getElem? hr)
  refine ⟨r, j, mc, mi, rate, r1, hj, hs, hr, ?_, ?_, r2, Int.mul_nonneg (by omega) t1, s4, s3, t1, t2⟩
  · unfold Fl.stepAt
    rw [r1, hj]
    show r.steps.getD (j : Int).toNat (0, 0) = _
    rw [Int.toNat_natCast, List.getD_eq_getElem?_getD, hs]
    rfl
  · unfold Fl.rateOf
    rw [Int.toNat_natCast, List.getD_eq_getElem?_getD, hr]
    rfl
theorem FlOk.onPc {fs : Fl} (I : FlOk fs) {k : Int} {ss : List Str} {f : Pc → Ans × Fl} (h : ∀ p, 0 ≤ k → fs.pcs[k.toNat]? = some p → p.state ∈ ss → FlOk (f p).2) : FlOk (fs.onPc k ss f).2 := by
  unfold Fl.onPc
  cases e : fs.pcAt k with
  | none => exact I
  | some p =>
    obtain ⟨h1, h2⟩ := pcAt_some e
    dsimp only
    split
    · exact h p h1 h2 (by assumption)
    · exact I
theorem in2 {z a b : Str} (h : z ∈ [a, b]) : z = a ∨ z = b := by simpa using h
theorem in1 {z a : Str} (h : z ∈ [a]) : z = a := by simpa using h
theorem in4 {z a b c d : Str} (h : z ∈ [a, b, c, d]) : z = a ∨ z = b ∨ z = c ∨ z = d := by simpa using h
theorem FlOk.mDone {fs : Fl} (I : FlOk fs) (d : Deed) : FlOk (fs.mDone d).2 := by
  have at_ok : ∀ {k : Nat} {p : Pc}, fs.pcs[k]? = some p → 0 ≤ p.at_ ∧ p.at_ ≤ fs.nSteps p := fun hp => by
    obtain ⟨r, r1, r2, r3, r4, r5⟩ := I.i.nSteps hp
    exact ⟨r3, r4⟩
  cases d with
  | buy z m pr =>
    show FlOk (fs.mBuy z m pr).2
    unfold Fl.mBuy
    split
    · split
      · rename_i h1 h2
        exact I.buy h1 (by omega) h2.2
      · exact I
    · exact I
  | begin_ z =>
    show FlOk (fs.mBegin z).2
    unfold Fl.mBegin
    cases e : PM.rowOf fs.rs z with
    | none => exact I
    | some r =>
      dsimp only
      split
      · exact I
      · rename_i h
        cases e2 : fs.lacking r.needs with
        | some y => exact I
        | none => exact (I.begin_ e (by simpa using h) e2).1
  | work k =>
    refine I.onPc fun p h0 hp hs => ?_
    have hst := in1 hs
    obtain ⟨r, j, mc, mi, rate, s1, s2, s3, s4, s5, s6, s7, s8, _⟩ := I.step hp hst
    show FlOk (fs.work _ p _ (fs.nSteps p))
    rw [s5]
    dsimp only
    rw [s6]
    exact I.work hp hst s8
  | test k g =>
    refine I.onPc fun p h0 hp hs => ?_
    have hw : p.state ≠ "within" := by rcases in2 hs with h | h <;> rw [h] <;> decide
    refine I.put (p' := { p with state := if g = true then "stock" else "bad" }) _ hp hw rfl rfl rfl rfl rfl ?_ ?_ (at_ok (p := p) hp) ?_
    · cases g
      · exact in_bad
      · exact (by decide : ("stock" : Str) ∈ stList)
    · cases g
      · exact bad_ne
      · exact stock_ne
    · intro h
      cases g
      · exact absurd h bad_nm
      · exact absurd h stock_nm
  | rework k a =>
    refine I.onPc fun p h0 hp hs => ?_
    have hw : p.state ≠ "within" := by rw [in1 hs]; decide
    show FlOk (if _ then _ else _ : Ans × Fl).2
    split
    · rename_i ha
      exact I.put (p' := { p with state := "making", at_ := a }) _ hp hw rfl rfl rfl rfl rfl (by decide : ("making" : Str) ∈ stList) making_ne ⟨ha.1, by show a ≤ _; omega⟩ fun _ => ha.2
    · exact I
  | swap k o n =>
    refine I.onPc fun p h0 hp hs => ?_
    show FlOk (fs.mSwap _ p o n).2
    unfold Fl.mSwap
    split
    · rename_i ho
      cases e : fs.pcAt n with
      | none => exact I
      | some r =>
        dsimp only
        split
        · rename_i hr
          cases e2 : fs.pcs[o.toNat]? with
          | none => exact I
          | some q =>
            dsimp only
            split
            · rename_i hpt
              exact I.swap hp e2 (pcAt_some e).2 (in1 hs) hr ho.2 hpt
            · exact I
        · exact I
    · exact I
  | scrap k =>
    refine I.onPc fun p h0 hp hs => ?_
    have hw : p.state ≠ "within" := by rcases in4 hs with h | h | h | h <;> rw [h] <;> decide
    exact I.put (p' := { p with state := "scrap" }) _ hp hw rfl rfl rfl rfl rfl (by decide : ("scrap" : Str) ∈ stList) (by show ("scrap" : Str) ≠ "within"; decide) (at_ok (p := p) hp) fun h => absurd h scrap_nm
  | strip k =>
    refine I.onPc fun p h0 hp hs => ?_
    exact I.strip hp (in1 hs)
  | sell k c =>
    refine I.onPc fun p h0 hp hs => ?_
    have hw : p.state ≠ "within" := by rw [in1 hs]; decide
    show FlOk (if _ then _ else _ : Ans × Fl).2
    split
    · exact I.put (p' := { p with state := "sold", client := some c }) _ hp hw rfl rfl rfl rfl rfl (by decide : ("sold" : Str) ∈ stList) (by show ("sold" : Str) ≠ "within"; decide) (at_ok (p := p) hp) fun h => absurd h sold_nm
    · exact I
  | back k =>
    refine I.onPc fun p h0 hp hs => ?_
    have hw : p.state ≠ "within" := by rw [in1 hs]; decide
    exact I.put (p' := { p with state := "made", client := none }) _ hp hw rfl rfl rfl rfl rfl in_made made_ne (at_ok (p := p) hp) fun h => absurd h made_nm
end PM

namespace PM
open PySem L2 WK
def stkStep (z : Str) (acc : List Nat × Int) (x : Pc × Nat) : List Nat × Int := if x.1.part = z ∧ x.1.state = "stock" ∧ 0 < acc.2 then (acc.1 ++ [x.2], acc.2 - 1) else acc
end PM

namespace PM
open PySem L2 WK
theorem give_len (n : Nat) (h : Hold) (fs : Fl) : (fs.give n h).pcs.length = fs.pcs.length ∧ (fs.give n h).lots.length = fs.lots.length := by
  unfold Fl.give
  cases h with
  | lot j m =>
    dsimp only
    cases fs.lots[j]? <;> cases fs.pcs[n]? <;> simp
  | pc k =>
    dsimp only
    cases fs.pcs[k]? <;> cases fs.pcs[n]? <;> simp
theorem giveAll_len (n : Nat) : ∀ (hs : List Hold) (fs : Fl), (fs.giveAll n hs).pcs.length = fs.pcs.length ∧ (fs.giveAll n hs).lots.length = fs.lots.length
  | [], fs => ⟨rfl, rfl⟩
  | h :: hs, fs => by
    obtain ⟨a, b⟩ := giveAll_len n hs (fs.give n h)
    obtain ⟨c, d⟩ := give_len n h fs
    exact ⟨a.trans c, b.trans d⟩
theorem take_at {α : Type} {l : List α} {n : Nat} {x : α} (hl : l.length = n + 1) (h : l[n]? = some x) : l = l.take n ++ [x] := by
  conv => lhs; rw [← List.take_append_drop n l]
  have : l.drop n = [x] := by
    obtain ⟨hn, e⟩ := List.getElem?_eq_some_iff.mp h
    rw [List.drop_eq_getElem_cons hn, e, List.drop_eq_nil_of_le (by omega)]
  rw [this]
theorem set_last {α : Type} (l : List α) (x y : α) : (l ++ [x]).set l.length y = l ++ [y] := by
  rw [List.set_append_right _ _ (Nat.le_refl _), Nat.sub_self]
  rfl
/-- begun, by what it comes to -/
theorem begin_eq {fs : Fl} {z : Str} {ns : Bool} {hs : List Hold} {G : Fl} {p : Pc} (hG : ({ fs with pcs := fs.pcs ++ [newPc z] } : Fl).giveAll fs.pcs.length hs = G) (hp : G.pcs[fs.pcs.length]? = some p) :
    fs.begin_ z ns hs = { fs with lots := G.lots, pcs := G.pcs.take fs.pcs.length ++ [if ns = true then { p with state := "made" } else p], book := fs.book ++ [.begin_ z] } := by
  have hl : G.pcs.length = fs.pcs.length + 1 := by
    rw [← hG, (giveAll_len _ hs _).1]
    show (fs.pcs ++ [newPc z]).length = _
    rw [List.length_append]; rfl
  have fr := giveAll_frame fs.pcs.length hs { fs with pcs := fs.pcs ++ [newPc z] }
  unfold Fl.begin_
  dsimp only
  rw [hG] at fr ⊢
  obtain ⟨f1, f2, f3, f4, f5⟩ := fr
  have hm : (if ns = true then G.pcs.modify fs.pcs.length (fun p => { p with state := "made" }) else G.pcs) = G.pcs.take fs.pcs.length ++ [if ns = true then { p with state := "made" } else p] := by
    cases ns
    · exact take_at hl hp
    · rw [if_pos rfl, if_pos rfl, modify_at hp]
      have e := take_at hl hp
      have hlen : (G.pcs.take fs.pcs.length).length = fs.pcs.length := by rw [List.length_take]; omega
      rw [e]
      conv => lhs; arg 2; rw [← hlen]
      rw [set_last, ← e]
  rw [hm, f3]
  cases G
  dsimp only at f1 f2 f4 f5 ⊢
  rw [f1, f2, f4, f5]
end PM

namespace PM
open PySem L2 WK
def holdIs (o : Int) : Hold → Bool
  | .pc k => decide ((k : Int) = o)
  | .lot _ _ => false
def spotAt (hs : List Hold) (o : Int) (j : Nat) : Bool := match hs[j]? with
  | some h => holdIs o h
  | none => false
def spotsOf (hs : List Hold) (o : Int) : List Nat := (List.range hs.length).filter (spotAt hs o)
end PM

namespace PM
open PySem L2 WK
def Ans.tag : Ans → Str
  | .told _ => "told"
  | .part _ => "part"
  | .count => "count"
  | .lacks _ => "lacks"
  | .piece _ => "piece"
def Ans.val : Ans → PyData
  | .told d => d
  | .part z => .str z
  | .count => .int 0
  | .lacks z => .str z
  | .piece z => .str z
def Deed.word : Deed → Str
  | .buy _ _ _ => "buy"
  | .begin_ _ => "begin"
  | .work _ => "work"
  | .test _ _ => "test"
  | .rework _ _ => "rework"
  | .swap _ _ _ => "swap"
  | .scrap _ => "scrap"
  | .strip _ => "strip"
  | .sell _ _ => "sell"
  | .back _ => "back"
def Deed.num : Deed → Int
  | .buy _ _ _ => 0
  | .begin_ _ => 0
  | .work k => k
  | .test k _ => k
  | .rework k _ => k
  | .swap k _ _ => k
  | .scrap k => k
  | .strip k => k
  | .sell k _ => k
  | .back k => k
def Deed.args : Deed → List PyData
  | .test _ g => [.bool g]
  | .rework _ a => [.int a]
  | .swap _ o n => [.int o, .int n]
  | .sell _ c => [.int c]
  | _ => []
def Deed.isPc : Deed → Bool
  | .buy _ _ _ => false
  | .begin_ _ => false
  | _ => true
theorem mDone_pc {fs : Fl} {d : Deed} (h : d.isPc = true) : fs.mDone d = fs.onPc d.num d.states fun p => fs.pDone d.num.toNat p d := by
  cases d <;> first | rfl | cases h
/-- what is told is noted, what is not told changes nothing -/
def NoteOk (fs : Fl) (d : Deed) (r : Ans × Fl) : Prop := (r.1.isTold = true → r.2.book = fs.book ++ [d]) ∧ (r.1.isTold = false → r.2 = fs)
theorem NoteOk.no {fs : Fl} {d : Deed} {a : Ans} (h : a.isTold = false) : NoteOk fs d (a, fs) := ⟨(fun e => by rw [h] at e; cases e), fun _ => rfl⟩
theorem NoteOk.yes {fs fs' : Fl} {d : Deed} {v : PyData} (h : fs'.book = fs.book ++ [d]) : NoteOk fs d (.told v, fs') := ⟨fun _ => h, fun e => nomatch e⟩
theorem pDone_note {fs : Fl} {d : Deed} {k : Nat} {p : Pc} (h : d.isPc = true) (hk : d.num = (k : Int)) : NoteOk fs d (fs.pDone k p d) := by
  cases d with
  | buy _ _ _ => cases h
  | begin_ _ => cases h
  | work k' => subst hk; exact .yes rfl
  | test k' g => subst hk; exact .yes rfl
  | rework k' a =>
    subst hk
    show NoteOk _ _ (if _ then _ else _)
    split
    · exact .yes rfl
    · exact .no rfl
  | swap k' o n =>
    subst hk
    show NoteOk _ _ (fs.mSwap k p o n)
    unfold Fl.mSwap
    split
    · rename_i ho
      cases e : fs.pcAt n with
      | none => exact .no rfl
      | some r =>
        dsimp only
        have hn := (pcAt_some e).1
        split
        · cases fs.pcs[o.toNat]? with
          | none => exact .no rfl
          | some q =>
            dsimp only
            split
            · refine .yes ?_
              show fs.book ++ [.swap k o.toNat n.toNat] = _
              rw [Int.toNat_of_nonneg ho.1, Int.toNat_of_nonneg hn]
            · exact .no rfl
        · exact .no rfl
    · exact .no rfl
  | scrap k' => subst hk; exact .yes rfl
  | strip k' => subst hk; exact .yes rfl
  | sell k' c =>
    subst hk
    show NoteOk _ _ (if _ then _ else _)
    split
    · exact .yes rfl
    · exact .no rfl
  | back k' => subst hk; exact .yes rfl
theorem mDone_note (fs : Fl) (d : Deed) : NoteOk fs d (fs.mDone d) := by
  by_cases h : d.isPc = true
  · rw [mDone_pc h]
    unfold Fl.onPc
    cases e : fs.pcAt d.num with
    | none => exact .no rfl
    | some p =>
      dsimp only
      split
      · exact pDone_note h (Int.toNat_of_nonneg (pcAt_some e).1).symm
      · exact .no rfl
  · cases d with
    | buy z m pr =>
      show NoteOk _ _ (fs.mBuy z m pr)
      unfold Fl.mBuy
      split
      · split
        · exact .yes rfl
        · exact .no rfl
      · exact .no rfl
    | begin_ z =>
      show NoteOk _ _ (fs.mBegin z)
      unfold Fl.mBegin
      cases PM.rowOf fs.rs z with
      | none => exact .no rfl
      | some r =>
        dsimp only
        split
        · exact .no rfl
        · cases fs.lacking r.needs with
          | some y => exact .no rfl
          | none =>
            refine .yes ?_
            unfold Fl.begin_
            dsimp only
            rw [(giveAll_frame _ _ _).2.2.1]
    | _ => exact absurd rfl h
end PM

namespace PM
open PySem L2 WK
theorem pDone_rs (fs : Fl) (k : Nat) (p : Pc) (d : Deed) : (fs.pDone k p d).2.rs = fs.rs ∧ (fs.pDone k p d).2.rates = fs.rates := by
  cases d with
  | rework k' a =>
    show (if _ then _ else _ : Ans × Fl).2.rs = _ ∧ (if _ then _ else _ : Ans × Fl).2.rates = _
    split <;> exact ⟨rfl, rfl⟩
  | sell k' c =>
    show (if _ then _ else _ : Ans × Fl).2.rs = _ ∧ (if _ then _ else _ : Ans × Fl).2.rates = _
    split <;> exact ⟨rfl, rfl⟩
  | swap k' o n =>
    show (fs.mSwap k p o n).2.rs = _ ∧ (fs.mSwap k p o n).2.rates = _
    unfold Fl.mSwap
    split
    · cases fs.pcAt n with
      | none => exact ⟨rfl, rfl⟩
      | some r =>
        dsimp only
        split
        · cases fs.pcs[o.toNat]? with
          | none => exact ⟨rfl, rfl⟩
          | some q =>
            dsimp only
            split <;> exact ⟨rfl, rfl⟩
        · exact ⟨rfl, rfl⟩
    · exact ⟨rfl, rfl⟩
  | _ => exact ⟨rfl, rfl⟩
theorem mDone_frame (fs : Fl) (d : Deed) : (fs.mDone d).2.rs = fs.rs ∧ (fs.mDone d).2.rates = fs.rates := by
  by_cases h : d.isPc = true
  · rw [mDone_pc h]
    unfold Fl.onPc
    cases fs.pcAt d.num with
    | none => exact ⟨rfl, rfl⟩
    | some p =>
      dsimp only
      split
      · exact pDone_rs fs _ p d
      · exact ⟨rfl, rfl⟩
  · cases d with
    | buy z m pr =>
      show (fs.mBuy z m pr).2.rs = _ ∧ (fs.mBuy z m pr).2.rates = _
      unfold Fl.mBuy
      split
      · split <;> exact ⟨rfl, rfl⟩
      · exact ⟨rfl, rfl⟩
    | begin_ z =>
      show (fs.mBegin z).2.rs = _ ∧ (fs.mBegin z).2.rates = _
      unfold Fl.mBegin
      cases PM.rowOf fs.rs z with
      | none => exact ⟨rfl, rfl⟩
      | some r =>
        dsimp only
        split
        · exact ⟨rfl, rfl⟩
        · cases fs.lacking r.needs with
          | some y => exact ⟨rfl, rfl⟩
          | none =>
            unfold Fl.begin_
            have fr := giveAll_frame fs.pcs.length (fs.takes r.needs).flatten { fs with pcs := fs.pcs ++ [newPc z] }
            exact ⟨fr.1, fr.2.1⟩
    | _ => exact absurd rfl h
theorem mDone_rs (fs : Fl) (d : Deed) : (fs.mDone d).2.rs = fs.rs := (mDone_frame fs d).1
end PM

namespace PM
open PySem L2 WK
/-- what was taken apart costs and holds nothing -/
def StrOk (fs : Fl) : Prop := ∀ (i : Nat) (p : Pc), fs.pcs[i]? = some p → p.state = "stripped" → p.cost = 0 ∧ p.holds = []
theorem StrOk.set {fs : Fl} (I : StrOk fs) {k : Nat} {p' : Pc} (h : p'.state ≠ "stripped") {ps : List Pc} (hps : ps = fs.pcs.set k p') : ∀ (i : Nat) (p : Pc), ps[i]? = some p → p.state = "stripped" → p.cost = 0 ∧ p.holds = [] := by
  subst hps
  intro i p hp hs
  by_cases hi : k = i
  · subst hi
    have hk := (List.getElem?_eq_some_iff.mp hp).1
    rw [List.length_set] at hk
    rw [List.getElem?_set_self hk] at hp
    cases hp
    exact absurd hs h
  · rw [List.getElem?_set_ne hi] at hp
    exact I i p hp hs
theorem StrOk.put {fs : Fl} (I : StrOk fs) {k : Nat} {p' : Pc} (d : Deed) (h : p'.state ≠ "stripped") : StrOk (fs.put k p' d) := I.set h rfl
theorem StrOk.strip {fs : Fl} (F : FlI fs) (I : StrOk fs) {k : Nat} {p : Pc} (hp : fs.pcs[k]? = some p) : StrOk (fs.strip k p) := by
  have hin : ∀ x ∈ pcsOf p.holds, ∃ q, fs.pcs[x]? = some q ∧ q.state = "within" := fun x hx => by
    obtain ⟨q, h1, h2⟩ := (F.pc k p hp).held x hx
    exact ⟨q, h1, F.within h1 h2⟩
  obtain ⟨b1, b2, _, _⟩ := stripPcs (pcsOf p.holds) fs.pcs ((lotsOf p.holds).foldl stripLot (fs.lots, 0)).2 (F.pc k p hp).nd hin
  intro i a ha hs
  replace ha : ((((pcsOf p.holds).foldl stripPc (fs.pcs, ((lotsOf p.holds).foldl stripLot (fs.lots, 0)).2)).1).set k { p with cost := 0, holds := [], state := "stripped", own := 0 })[i]? = some a := ha
  by_cases h3 : i = k
  · subst h3
    rw [List.getElem?_set_self (by rw [b1]; exact (List.getElem?_eq_some_iff.mp hp).1)] at ha
    cases ha
    exact ⟨rfl, rfl⟩
  · rw [List.getElem?_set_ne (Ne.symm h3), b2] at ha
    by_cases h4 : i ∈ pcsOf p.holds
    · rw [if_pos h4] at ha
      obtain ⟨q, hq, e⟩ := Option.map_eq_some_iff.mp ha
      subst e
      exact absurd (show ("made" : Str) = "stripped" from hs) (by decide)
    · rw [if_neg h4] at ha
      exact I i a ha hs
theorem StrOk.begin_ {fs : Fl} (F : FlOk fs) (I : StrOk fs) {z : Str} {r : PRow} (hr : PM.rowOf fs.rs z = some r) (hnb : (r.needs.isEmpty && r.steps.isEmpty) = false) (hl : fs.lacking r.needs = none) : StrOk (fs.begin_ z r.steps.isEmpty (fs.takes r.needs).flatten) := by
  obtain ⟨_, P0⟩ := F.begin_ hr hnb hl
  generalize (fs.takes r.needs).flatten = hs at P0
  obtain ⟨J, j1, j2, ⟨c, j3⟩, j4⟩ := FlI.giveAll (fs := { fs with pcs := fs.pcs ++ [newPc z], book := fs.book ++ [.begin_ z] }) (F.i.addPc hr hnb (.begin_ z)) (show (fs.pcs ++ [newPc z])[fs.pcs.length]? = some (newPc z) from List.getElem?_concat_length) making_ne making_ns (hs := hs) ⟨P0.pc, P0.nd, P0.lot, P0.ndl, P0.len⟩
  have eb : ({ fs with pcs := fs.pcs ++ [newPc z], book := fs.book ++ [.begin_ z] } : Fl).giveAll fs.pcs.length hs = { ({ fs with pcs := fs.pcs ++ [newPc z] } : Fl).giveAll fs.pcs.length hs with book := fs.book ++ [.begin_ z] } := giveAll_book fs.pcs.length hs { fs with pcs := fs.pcs ++ [newPc z] } _
  rw [eb] at j1 j3 j4
  dsimp only at j1 j3 j4
  generalize hG : ({ fs with pcs := fs.pcs ++ [newPc z] } : Fl).giveAll fs.pcs.length hs = G at j1 j3 j4
  rw [begin_eq hG j3]
  intro i a ha hst
  replace ha : (G.pcs.take fs.pcs.length ++ [if r.steps.isEmpty = true then { newPc z with holds := (newPc z).holds ++ hs, cost := c, state := "made" } else { newPc z with holds := (newPc z).holds ++ hs, cost := c }])[i]? = some a := ha
  have hl2 : G.pcs.length = fs.pcs.length + 1 := by rw [j1, List.length_append]; rfl
  have htl : (G.pcs.take fs.pcs.length).length = fs.pcs.length := by rw [List.length_take]; omega
  by_cases hi : i < fs.pcs.length
  · rw [List.getElem?_append_left (by omega), List.getElem?_take_of_lt hi] at ha
    obtain ⟨q, hq⟩ : ∃ q, fs.pcs[i]? = some q := ⟨_, List.getElem?_eq_getElem hi⟩
    obtain ⟨q', e1, _, _, e4⟩ := j4 i q (by omega) (by rw [List.getElem?_append_left hi]; exact hq)
    rw [ha] at e1
    cases e1
    rcases e4 with e4 | e4
    · exact I i a (by rw [e4]; exact hq) hst
    · rw [e4] at hst
      exact absurd hst (by decide)
  · have hil := (List.getElem?_eq_some_iff.mp ha).1
    rw [List.length_append, List.length_singleton, htl] at hil
    have : i = fs.pcs.length := by omega
    subst this
    rw [List.getElem?_append_right (by omega), htl, Nat.sub_self] at ha
    have ha2 := Option.some.inj ha
    subst ha2
    by_cases hs0 : r.steps.isEmpty = true
    · rw [if_pos hs0] at hst
      exact absurd (show ("made" : Str) = "stripped" from hst) (by decide)
    · rw [if_neg hs0] at hst
      exact absurd (show ("making" : Str) = "stripped" from hst) (by decide)
theorem StrOk.mDone {fs : Fl} (F : FlOk fs) (I : StrOk fs) (d : Deed) : StrOk (fs.mDone d).2 := by
  have on : ∀ {k : Int} {ss : List Str} {f : Pc → Ans × Fl}, (∀ p, fs.pcs[k.toNat]? = some p → p.state ∈ ss → StrOk (f p).2) → StrOk (fs.onPc k ss f).2 := fun {k ss f} h => by
    unfold Fl.onPc
    cases e : fs.pcAt k with
    | none => exact I
    | some p =>
      dsimp only
      split
      · exact h p (pcAt_some e).2 (by assumption)
      · exact I
  cases d with
  | buy z m pr =>
    show StrOk (fs.mBuy z m pr).2
    unfold Fl.mBuy
    split
    · split
      · exact I
      · exact I
    · exact I
  | begin_ z =>
    show StrOk (fs.mBegin z).2
    unfold Fl.mBegin
    cases e : PM.rowOf fs.rs z with
    | none => exact I
    | some r =>
      dsimp only
      split
      · exact I
      · rename_i h
        cases e2 : fs.lacking r.needs with
        | some y => exact I
        | none => exact StrOk.begin_ F I e (by simpa using h) e2
  | work k =>
    refine on fun p hp hs => ?_
    have hst := in1 hs
    refine I.set (p' := p.work _ _) ?_ rfl
    show (if _ then ("made" : Str) else p.state) ≠ _
    split
    · decide
    · rw [hst]; decide
  | test k g =>
    refine on fun p hp hs => I.put _ ?_
    cases g
    · exact (by decide : ("bad" : Str) ≠ "stripped")
    · exact (by decide : ("stock" : Str) ≠ "stripped")
  | rework k a =>
    refine on fun p hp hs => ?_
    show StrOk (if _ then _ else _ : Ans × Fl).2
    split
    · exact I.put _ (show ("making" : Str) ≠ "stripped" by decide)
    · exact I
  | swap k o n =>
    refine on fun p hp hs => ?_
    show StrOk (fs.mSwap _ p o n).2
    unfold Fl.mSwap
    split
    · cases e : fs.pcAt n with
      | none => exact I
      | some r =>
        dsimp only
        split
        · cases e2 : fs.pcs[o.toNat]? with
          | none => exact I
          | some q =>
            dsimp only
            split
            · have I1 : StrOk { fs with pcs := fs.pcs.set k.toNat { p with holds := replPc o.toNat n.toNat p.holds, cost := p.cost + (r.cost - q.cost), state := "made" } } := I.set (show ("made" : Str) ≠ "stripped" by decide) rfl
              have I2 : StrOk { fs with pcs := (fs.pcs.set k.toNat { p with holds := replPc o.toNat n.toNat p.holds, cost := p.cost + (r.cost - q.cost), state := "made" }).set o.toNat { q with state := "bad", above := none } } := I1.set (show ("bad" : Str) ≠ "stripped" by decide) rfl
              exact I2.set (show ("within" : Str) ≠ "stripped" by decide) rfl
            · exact I
        · exact I
    · exact I
  | scrap k => exact on fun p hp hs => I.put _ (show ("scrap" : Str) ≠ "stripped" by decide)
  | strip k => exact on fun p hp hs => StrOk.strip F.i I hp
  | sell k c =>
    refine on fun p hp hs => ?_
    show StrOk (if _ then _ else _ : Ans × Fl).2
    split
    · exact I.put _ (show ("sold" : Str) ≠ "stripped" by decide)
    · exact I
  | back k => exact on fun p hp hs => I.put _ (show ("made" : Str) ≠ "stripped" by decide)
/-! where all that was paid lies -/
def placeOf (z : Str) : Option Str :=
  if z = "making" ∨ z = "made" ∨ z = "bad" then some "work" else if z = "stock" then some "stock" else if z = "sold" then some "sold" else if z = "scrap" then some "scrap" else none
def plStep (acc : List (Str × Int)) (p : Pc) : List (Str × Int) := match placeOf p.state with
  | some o => addA acc o p.cost
  | none => acc
def plStart (fs : Fl) : List (Str × Int) := [("lots", (fs.lots.map lotWorth).sum), ("work", 0), ("stock", 0), ("sold", 0), ("scrap", 0), ("lost", fs.lost)]
def placesOf (fs : Fl) : List (Str × Int) := fs.pcs.foldl plStep (plStart fs)
abbrev plKeys : List Str := ["lots", "work", "stock", "sold", "scrap", "lost"]
theorem placeOf_in {z o : Str} (h : placeOf z = some o) : o ∈ plKeys := by
  unfold placeOf at h
  split at h
  · cases h; decide
  · split at h
    · cases h; decide
    · split at h
      · cases h; decide
      · split at h
        · cases h; decide
        · cases h
theorem plStep_keys {acc : List (Str × Int)} (h : acc.map (·.1) = plKeys) (p : Pc) : (plStep acc p).map (·.1) = plKeys := by
  unfold plStep
  cases e : placeOf p.state with
  | none => exact h
  | some o =>
    dsimp only
    rw [addA_keys (by rw [h]; exact placeOf_in e), h]
theorem plFold_keys : ∀ (ps : List Pc) {acc : List (Str × Int)}, acc.map (·.1) = plKeys → (ps.foldl plStep acc).map (·.1) = plKeys
  | [], _, h => h
  | p :: ps, _, h => plFold_keys ps (plStep_keys h p)
theorem plKeys_nd : plKeys.Nodup := by decide
end PM

namespace WK
open PySem PySem.Spec PyProof.Rows L2 PM
/-- where the costs of pieces lie: the written dict of the program -/
structure PlcK (K : PySem.W.Frag) (w : World) (d : Addr) : Prop where
  kd : ∃ es n, KDict K w d es n
  get : ∀ z ∈ stList, (∃ o tk, placeOf z = some o ∧ PySem.W.nsIn K d z = some (some (.str o tk))) ∨ (placeOf z = none ∧ PySem.W.nsIn K d z = some none)
section
variable {P : Program} {w : World} {K : PySem.W.Frag} {H : Hp} {Q : VK} {d : Addr} {z o : Str}
theorem v_inPlc (D : PlcK K w d) (hz : z ∈ stList) (k : Q (.bl (placeOf z).isSome) H) : OpU P w K (compareOp .In) (.str z) (.ref d) H Q := by
  obtain ⟨es, n, kd⟩ := D.kd
  refine .of (r := fun x y H Q => ∃ (z : Str) (r : Option Value), x = .str z ∧ y = .ref d ∧ PySem.W.nsIn K d z = some r ∧ Q (.bl r.isSome) H) (fun X al => ?_) ?_
  · obtain ⟨_, hw, hK, _⟩ := al
    subst hw
    subst hK
    exact op_in_kd kd
  · rcases D.get z hz with ⟨o, tk, e1, e2⟩ | ⟨e1, e2⟩
    · exact ⟨z, _, rfl, rfl, e2, by rw [e1] at k; exact k⟩
    · exact ⟨z, _, rfl, rfl, e2, by rw [e1] at k; exact k⟩
theorem v_ixPlc (D : PlcK K w d) (hz : z ∈ stList) (ho : placeOf z = some o) (k : Q (.str o) H) : IxU P w K (.ref d) (.str z) H Q := by
  obtain ⟨es, n, kd⟩ := D.kd
  refine .of (r := rIxD K w) (fun X al => ?_) ?_
  · obtain ⟨_, hw, hK, _⟩ := al
    subst hw
    subst hK
    exact ix_kdict
  · rcases D.get z hz with ⟨o', tk, e1, e2⟩ | ⟨e1, e2⟩
    · rw [ho] at e1
      cases e1
      exact ⟨d, z, .str o, rfl, rfl, ⟨es, n, _, kd.at_, kd.lit, e2, ⟨tk, rfl⟩⟩, k⟩
    · rw [ho] at e1
      cases e1
end
end WK

/-! a book as text -/
namespace PM
open PySem L2 WK
abbrev spc : Str := " "
abbrev nlS : Str := "\n"
def partLine (r : PRow) : Str := Txt.join spc ["part", r.name, numS r.lot, numS r.lead]
def needLine (x : Str × Int) : Str := Txt.join spc ["need", x.1, numS x.2]
def stepLine (x : Int × Int) : Str := Txt.join spc ["step", numS x.1, numS x.2]
def rowLines (r : PRow) : List Str := partLine r :: (r.needs.map needLine ++ r.steps.map stepLine)
def textOf (rs : List PRow) : Str := Txt.join nlS (rs.flatMap rowLines)
end PM
namespace PM
open PySem L2 WK
section
variable {names : List Str} {r : PRow}
theorem lines_len (R : GoodRow names r) (hn : r.needs.length ≤ 12) : (rowLines r).length ≤ 18 := by
  have := R.few
  unfold rowLines
  rw [List.length_cons, List.length_append, List.length_map, List.length_map]
  omega
end
theorem GoodBook.lines18 {rs : List PRow} (G : GoodBook rs) : ∀ r ∈ rs, (rowLines r).length ≤ 18 := by
  intro r hr
  obtain ⟨j, hj⟩ := List.getElem?_of_mem hr
  have R := G.row j r hj
  refine lines_len R ?_
  have := nodup_sub_length R.nd (l' := (rs.take j).map (·.name)) (by
    intro x hx
    obtain ⟨y, hy, rfl⟩ := List.mem_map.mp hx
    exact R.known y hy)
  rw [List.length_map, List.length_map, List.length_take] at this
  have := G.len
  omega
end PM
namespace PM
open PySem L2 WK
abbrev figs : Str := "0123456789"
end PM

/-! a book's text, read again -/
namespace PM
open PySem L2 WK
inductive Tg where
  | part (z : Str) (i j : Int)
  | need (z : Str) (i : Int)
  | step (i j : Int)
def Tg.words : Tg → List Str
  | .part z i j => ["part", z, numS i, numS j]
  | .need z i => ["need", z, numS i]
  | .step i j => ["step", numS i, numS j]
def Tg.line (t : Tg) : Str := Txt.join spc t.words
def Tg.ok : Tg → Prop
  | .part z i j => isNameM z = true ∧ (0 ≤ i ∧ i < 100) ∧ (0 ≤ j ∧ j < 100)
  | .need z i => isNameM z = true ∧ (0 ≤ i ∧ i < 100)
  | .step i j => (0 ≤ i ∧ i < 100) ∧ (0 ≤ j ∧ j < 100)
def rowTags (r : PRow) : List Tg := .part r.name r.lot r.lead :: (r.needs.map (fun x => .need x.1 x.2) ++ r.steps.map fun x => .step x.1 x.2)
def bookTags (rs : List PRow) : List Tg := rs.flatMap rowTags
abbrev RdS := Option (List PRow × PRow)
def rd1 : RdS → Tg → RdS
  | none, .part z i j => some ([], ⟨z, [], [], i, j⟩)
  | some (qs, r), .part z i j => some (qs ++ [r], ⟨z, [], [], i, j⟩)
  | some (qs, r), .need z i => some (qs, { r with needs := r.needs ++ [(z, i)] })
  | some (qs, r), .step i j => some (qs, { r with steps := r.steps ++ [(i, j)] })
  | none, _ => none
def rdRows : RdS → List PRow
  | none => []
  | some (qs, r) => qs ++ [r]
def SOk : RdS → Tg → Prop
  | _, .part _ _ _ => True
  | s, .need _ _ => ∃ qs r, s = some (qs, r) ∧ r.steps = []
  | s, .step _ _ => ∃ qs r, s = some (qs, r)
def rdV : RdS → List Tg → Prop
  | _, [] => True
  | s, t :: ts => SOk s t ∧ rdV (rd1 s t) ts
def rdSize : RdS → Nat
  | none => 0
  | some (qs, r) => qs.length + r.needs.length + r.steps.length + 1
/-! words -/
theorem name_free {z : Str} (h : isNameM z = true) {c : Nat} (hc : c ∉ letters.cps.toList) : c ∉ TL.tl z := by
  unfold isNameM at h
  simp only [Bool.and_eq_true, decide_eq_true_eq, List.all_map, List.all_eq_true] at h
  intro hm
  have := h.2.2 c hm
  simp only [Function.comp, id, decide_eq_true_eq] at this
  exact hc this
end PM

/-! a book's text by its rows -/
namespace PM
open PySem L2 WK
/-- rows that need nothing -/
structure Bare (r : PRow) : Prop where
  nm : isNameM r.name = true
  lot : 1 ≤ r.lot ∧ r.lot ≤ 99
  lead : 0 ≤ r.lead ∧ r.lead ≤ 30
  few : r.steps.length ≤ 5
  steps : ∀ x ∈ r.steps, (0 ≤ x.1 ∧ x.1 < 6) ∧ 1 ≤ x.2 ∧ x.2 ≤ 99
  none : r.needs = []
theorem GoodRow.bare {names : List Str} {r : PRow} (R : GoodRow names r) (h : r.needs = []) : Bare r := ⟨R.nm, R.lot, R.lead, R.few, R.steps, h⟩
theorem bare_led : ∀ (as bs : List PRow), (∀ r ∈ as, r.needs = []) → (∀ p ∈ ledOf bs, p.2 = []) → ∀ p ∈ ledOf (bs ++ as), p.2 = []
  | [], bs, _, h => by rw [List.append_nil]; exact h
  | a :: as, bs, ha, h => by
    have e : bs ++ a :: as = (bs ++ [a]) ++ as := by simp
    rw [e]
    refine bare_led as (bs ++ [a]) (fun r hr => ha r (.tail _ hr)) fun p hp => ?_
    rw [ledOf_snoc] at hp
    rcases List.mem_append.mp hp with hp | hp
    · exact h p hp
    · rw [List.mem_singleton] at hp
      subst hp
      show ledTo _ _ a.needs = []
      rw [ha a (.head _)]
      unfold ledTo
      refine List.filter_eq_nil_iff.mpr fun q hq => ?_
      obtain ⟨s, _, rfl⟩ := List.mem_map.mp (show q ∈ _ from hq)
      simp
theorem bare_book {as : List PRow} (h : ∀ r ∈ as, Bare r) (nd : (as.map (·.name)).Nodup) (hl : as.length ≤ 12) : GoodBook as where
  len := hl
  row := fun i r hr => by
    have b := h r (List.mem_of_getElem? hr)
    refine ⟨b.nm, ?_, b.lot, b.lead, ?_, ?_, ?_, b.few, b.steps⟩
    · intro hm
      rw [← List.take_append_drop i as, List.map_append, List.nodup_append] at nd
      obtain ⟨q, hq, e⟩ := List.mem_map.mp hm
      refine nd.2.2 q.name (List.mem_map.mpr ⟨q, hq, rfl⟩) r.name (List.mem_map.mpr ⟨r, ?_, rfl⟩) e
      exact List.mem_of_getElem? (i := 0) (by rw [List.getElem?_drop]; simpa using hr)
    · rw [b.none]; exact List.nodup_nil
    · intro x hx; rw [b.none] at hx; cases hx
    · intro x hx; rw [b.none] at hx; cases hx
  led := fun p hp => by
    have := bare_led as [] (fun r hr => (h r hr).none) (fun _ z => nomatch z) p hp
    rw [this]
    decide
theorem GoodBook.alone {rs : List PRow} (G : GoodBook rs) : (∀ r ∈ rs.filter (fun r => r.needs.isEmpty), Bare r) ∧ ((rs.filter fun r => r.needs.isEmpty).map (·.name)).Nodup ∧ (rs.filter fun r => r.needs.isEmpty).length ≤ 12 := by
  refine ⟨fun r hr => ?_, ?_, ?_⟩
  · obtain ⟨h1, h2⟩ := List.mem_filter.mp hr
    obtain ⟨i, hi⟩ := List.getElem?_of_mem h1
    exact (G.row i r hi).bare (List.isEmpty_iff.mp h2)
  · have := G.nodup rs.length
    rw [List.take_length] at this
    exact this.sublist ((List.filter_sublist ..).map _)
  · exact Nat.le_trans (List.length_filter_le ..) G.len
theorem Bare.book {r : PRow} (b : Bare r) : GoodBook [r] := bare_book (fun q hq => by rw [List.mem_singleton] at hq; exact hq ▸ b) (by simp) (by simp)
end PM

/-! shapes of rows and lines -/
namespace PM
open PySem L2 WK
theorem row_shp {r : PRow} (h : r.name.cps.all (· < 0x110000) = true) (hn : ∀ x ∈ r.needs, x.1.cps.all (· < 0x110000) = true) : Shp 3 (encRow r) := by
  refine Shp.tup fun d hd => ?_
  simp only [List.mem_cons, List.not_mem_nil, or_false] at hd
  rcases hd with rfl | rfl | rfl | rfl | rfl
  · exact Shp.str h
  · refine Shp.tup fun d hd => ?_
    obtain ⟨x, hx, rfl⟩ := List.mem_map.mp hd
    refine Shp.tup fun d hd => ?_
    simp only [List.mem_cons, List.not_mem_nil, or_false] at hd
    rcases hd with rfl | rfl
    · exact Shp.str (hn x hx)
    · exact Shp.int
  · refine Shp.tup fun d hd => ?_
    obtain ⟨x, hx, rfl⟩ := List.mem_map.mp hd
    refine Shp.tup fun d hd => ?_
    simp only [List.mem_cons, List.not_mem_nil, or_false] at hd
    rcases hd with rfl | rfl
    · exact Shp.int
    · exact Shp.int
  · exact Shp.int
  · exact Shp.int
theorem name_shp {z : Str} (h : isNameM z = true) : z.cps.all (· < 0x110000) = true := by
  have key : ∀ c ∈ z.cps.toList, c < 0x110000 := fun c hc => by
    refine Decidable.byContradiction fun hn => ?_
    refine name_free (c := c) h (fun hm => hn ?_) hc
    have : ∀ x ∈ letters.cps.toList, x < 0x110000 := by decide +kernel
    exact this c hm
  rw [← Array.all_toList]
  exact List.all_eq_true.mpr fun c hc => decide_eq_true (key c hc)
theorem GoodBook.rowShp {rs : List PRow} (G : GoodBook rs) {r : PRow} (h : r ∈ rs) : Shp 3 (encRow r) := by
  obtain ⟨i, hi⟩ := List.getElem?_of_mem h
  have R := G.row i r hi
  refine row_shp (name_shp R.nm) fun x hx => ?_
  obtain ⟨q, hq, e⟩ := List.mem_map.mp (R.known x hx)
  obtain ⟨j, hj⟩ := List.getElem?_of_mem (List.mem_of_mem_take hq)
  rw [← e]
  exact name_shp (G.row j q hj).nm
theorem GoodBook.shp {rs : List PRow} (G : GoodBook rs) : Shp 4 (.list (rs.map encRow)) := Shp.lst fun d hd => by
  obtain ⟨r, hr, rfl⟩ := List.mem_map.mp hd
  exact G.rowShp hr
end PM

/-! the law's own lines -/
namespace PM
open PySem L2 WK
end PM
namespace PM
open PySem L2 WK
abbrev rowA : PRow := ⟨"a", [], [], 99, 30⟩
theorem row_al {r : PRow} (h1 : r.needs.length ≤ 100000) (h2 : r.steps.length ≤ 100000) {n : Nat} : AlOk (n + 3) (encRow r) := by
  refine AlOk.tup (by simp) fun d hd => ?_
  simp only [List.mem_cons, List.not_mem_nil, or_false] at hd
  rcases hd with rfl | rfl | rfl | rfl | rfl
  · exact AlOk.str
  · refine AlOk.tup (by rw [List.length_map]; exact h1) fun d hd => ?_
    obtain ⟨x, hx, rfl⟩ := List.mem_map.mp hd
    refine AlOk.tup (by simp) fun d hd => ?_
    simp only [List.mem_cons, List.not_mem_nil, or_false] at hd
    rcases hd with rfl | rfl
    · exact AlOk.str
    · exact AlOk.int
  · refine AlOk.tup (by rw [List.length_map]; exact h2) fun d hd => ?_
    obtain ⟨x, hx, rfl⟩ := List.mem_map.mp hd
    refine AlOk.tup (by simp) fun d hd => ?_
    simp only [List.mem_cons, List.not_mem_nil, or_false] at hd
    rcases hd with rfl | rfl
    · exact AlOk.int
    · exact AlOk.int
  · exact AlOk.int
  · exact AlOk.int
theorem GoodBook.al {rs : List PRow} (G : GoodBook rs) {n : Nat} : AlOk (n + 4) (.list (rs.map encRow)) := by
  refine AlOk.lst (by rw [List.length_map]; have := G.len; omega) fun d hd => ?_
  obtain ⟨r, hr, rfl⟩ := List.mem_map.mp hd
  have hnl := G.lines18 r hr
  unfold rowLines at hnl
  rw [List.length_cons, List.length_append, List.length_map, List.length_map] at hnl
  exact row_al (by omega) (by omega)
end PM

/-! what the law itself counts -/
namespace PM
open PySem L2
def needsOf (rs : List PRow) (s : Str) : List (Str × Int) := match rs.filter fun r => decide (r.name = s) with | r :: _ => r.needs | [] => []
def lawStep (g : Str → List (Str × Int)) (f : List (Str × Int)) (p : Str × Int) : List (Str × Int) := addAll p.2 (addA f p.1 p.2) (g p.1)
def lawLed (rs : List PRow) : Nat → List (Str × Int) → List (Str × Int)
  | 0, _ => []
  | n + 1, needs => needs.foldl (lawStep fun s => lawLed rs n (needsOf rs s)) []
structure Fine (names : List Str) (f : List (Str × Int)) : Prop where
  nd : (f.map (·.1)).Nodup
  sub : ∀ y ∈ f, y.1 ∈ names
theorem putA_fine {names : List Str} {f : List (Str × Int)} {s : Str} {v : Int} (h : Fine names f) (hs : s ∈ names) : Fine names (putA f s v) := by
  by_cases k : s ∈ f.map (·.1)
  · refine ⟨by rw [putA_keys f s v k]; exact h.nd, fun y hy => ?_⟩
    have : y.1 ∈ (putA f s v).map (·.1) := List.mem_map.mpr ⟨y, hy, rfl⟩
    rw [putA_keys f s v k] at this
    obtain ⟨z, hz, e⟩ := List.mem_map.mp this
    rw [← e]
    exact h.sub z hz
  · rw [putA_new f s v k]
    refine ⟨?_, fun y hy => ?_⟩
    · rw [List.map_append]
      refine List.nodup_append.mpr ⟨h.nd, List.nodup_cons.mpr ⟨(by simp), List.nodup_nil⟩, ?_⟩
      intro a ha b hb hab
      rw [List.map_singleton, List.mem_singleton] at hb
      subst hb hab
      exact k ha
    · rcases List.mem_append.mp hy with hy | hy
      · exact h.sub y hy
      · rw [List.mem_singleton] at hy
        subst hy
        exact hs
theorem addA_fine {names : List Str} {f : List (Str × Int)} {s : Str} {v : Int} (h : Fine names f) (hs : s ∈ names) : Fine names (addA f s v) := putA_fine h hs
theorem addAll_fine {names : List Str} {m : Int} {more : List (Str × Int)} (hm : ∀ y ∈ more, y.1 ∈ names) {f : List (Str × Int)} (h : Fine names f) : Fine names (addAll m f more) := by
  unfold addAll
  induction more generalizing f with
  | nil => exact h
  | cons y more ih =>
    rw [List.foldl_cons]
    exact ih (fun z hz => hm z (.tail _ hz)) (addA_fine h (hm y (.head _)))
theorem Fine.nil (names : List Str) : Fine names [] := ⟨List.nodup_nil, fun _ h => nomatch h⟩
theorem Fine.len {names : List Str} {f : List (Str × Int)} (h : Fine names f) : f.length ≤ names.length := by
  have := nodup_sub_length h.nd (l' := names) (fun x hx => by obtain ⟨y, hy, rfl⟩ := List.mem_map.mp hx; exact h.sub y hy)
  rwa [List.length_map] at this
theorem lawStep_fine {names : List Str} {g : Str → List (Str × Int)} {f : List (Str × Int)} {p : Str × Int} (h : Fine names f) (hp : p.1 ∈ names) (hg : ∀ y ∈ g p.1, y.1 ∈ names) : Fine names (lawStep g f p) := addAll_fine hg (addA_fine h hp)
theorem lawFold_fine {names : List Str} {g : Str → List (Str × Int)} {needs : List (Str × Int)} (hp : ∀ p ∈ needs, p.1 ∈ names) (hg : ∀ p ∈ needs, ∀ y ∈ g p.1, y.1 ∈ names) {f : List (Str × Int)} (h : Fine names f) : Fine names (needs.foldl (lawStep g) f) := by
  induction needs generalizing f with
  | nil => exact h
  | cons p needs ih =>
    rw [List.foldl_cons]
    exact ih (fun q hq => hp q (.tail _ hq)) (fun q hq => hg q (.tail _ hq)) (lawStep_fine h (hp p (.head _)) (hg p (.head _)))
theorem filter_one {rs : List PRow} {r : PRow} (nd : (rs.map (·.name)).Nodup) (h : r ∈ rs) : rs.filter (fun x => decide (x.name = r.name)) = [r] := by
  induction rs with
  | nil => cases h
  | cons a rs ih =>
    rw [List.map_cons] at nd
    obtain ⟨n1, n2⟩ := List.nodup_cons.mp nd
    rcases List.mem_cons.mp h with rfl | h
    · rw [List.filter_cons, if_pos (decide_eq_true rfl)]
      congr 1
      refine List.filter_eq_nil_iff.mpr fun x hx => ?_
      intro z
      exact n1 (List.mem_map.mpr ⟨x, hx, of_decide_eq_true z⟩)
    · rw [List.filter_cons, if_neg, ih n2 h]
      intro z
      exact n1 (List.mem_map.mpr ⟨r, h, (of_decide_eq_true z).symm⟩)
section
variable {rs : List PRow}
theorem GoodBook.nd (G : GoodBook rs) : (rs.map (·.name)).Nodup := by
  have := G.nodup rs.length
  rwa [List.take_length] at this
theorem needsOf_row (G : GoodBook rs) {r : PRow} (h : r ∈ rs) : needsOf rs r.name = r.needs := by
  unfold needsOf
  rw [filter_one G.nd h]
theorem mem_take_names {i n : Nat} (hi : i ≤ n) {s : Str} (h : s ∈ (rs.take i).map (·.name)) : s ∈ (rs.take n).map (·.name) := by
  obtain ⟨r, hr, e⟩ := List.mem_map.mp h
  refine List.mem_map.mpr ⟨r, ?_, e⟩
  obtain ⟨j, hj⟩ := List.getElem?_of_mem hr
  have h1 : j < i := by
    have := (List.getElem?_eq_some_iff.mp hj).1
    rw [List.length_take] at this
    omega
  rw [List.getElem?_take_of_lt h1] at hj
  exact List.mem_of_getElem? (by rw [List.getElem?_take_of_lt (show j < n by omega)]; exact hj)
theorem names_take {n : Nat} {s : Str} (h : s ∈ (rs.take n).map (·.name)) : s ∈ rs.map (·.name) := by
  obtain ⟨r, hr, e⟩ := List.mem_map.mp h
  exact List.mem_map.mpr ⟨r, List.mem_of_mem_take hr, e⟩
/-- the row behind a name, and how deep it lies -/
theorem GoodBook.at (G : GoodBook rs) {n : Nat} {s : Str} (h : s ∈ (rs.take (n + 1)).map (·.name)) : ∃ r ∈ rs, r.name = s ∧ rs.filter (fun x => decide (x.name = s)) = [r] ∧ (∀ x ∈ r.needs, x.1 ∈ (rs.take n).map (·.name)) ∧ (∀ x ∈ r.needs, 1 ≤ x.2 ∧ x.2 ≤ 9) ∧ r.needs.length ≤ 12 := by
  obtain ⟨r, hr, rfl⟩ := List.mem_map.mp h
  obtain ⟨j, hj⟩ := List.getElem?_of_mem hr
  have h1 : j < n + 1 := by
    have := (List.getElem?_eq_some_iff.mp hj).1
    rw [List.length_take] at this
    omega
  rw [List.getElem?_take_of_lt h1] at hj
  have R := G.row j r hj
  have hm := List.mem_of_getElem? hj
  refine ⟨r, hm, rfl, filter_one G.nd hm, fun x hx => mem_take_names (by omega) (R.known x hx), R.many, ?_⟩
  have := nodup_sub_length R.nd (l' := (rs.take j).map (·.name)) (by
    intro x hx
    obtain ⟨y, hy, rfl⟩ := List.mem_map.mp hx
    exact R.known y hy)
  rw [List.length_map, List.length_map, List.length_take] at this
  have := G.len
  omega
theorem lawLed_fine (G : GoodBook rs) : ∀ (n : Nat) (needs : List (Str × Int)), (∀ x ∈ needs, x.1 ∈ (rs.take n).map (·.name)) → Fine (rs.map (·.name)) (lawLed rs n needs)
  | 0, _, _ => Fine.nil _
  | n + 1, needs, h => by
    refine lawFold_fine (fun p hp => names_take (h p hp)) (fun p hp => ?_) (Fine.nil _)
    obtain ⟨r, hr, e, hf, hn, _⟩ := G.at (h p hp)
    rw [← e, needsOf_row G hr]
    exact (lawLed_fine G n r.needs hn).sub
end
open WK in
open WK in
theorem getA_nodup {α : Type} {m : List (Str × α)} {y : Str × α} (h : y ∈ m) (nd : (m.map (·.1)).Nodup) : getA m y.1 = some y.2 := by
  induction m with
  | nil => cases h
  | cons p m ih =>
    rw [List.map_cons] at nd
    obtain ⟨n1, n2⟩ := List.nodup_cons.mp nd
    unfold getA
    rw [List.find?_cons]
    rcases List.mem_cons.mp h with rfl | h
    · rw [decide_eq_true rfl]; rfl
    · rw [decide_eq_false (fun e : p.1 = y.1 => n1 (List.mem_map.mpr ⟨y, h, e.symm⟩))]
      exact ih h n2
end PM

/-! what the law counts is what the program counts -/
namespace PM
open PySem L2
def valA (f : List (Str × Int)) (s : Str) : Int := (getA f s).getD 0
theorem getA_putA (f : List (Str × Int)) (s t : Str) (v : Int) : getA (putA f s v) t = if t = s then some v else getA f t := by
  have h : (getA (putA f s v) t).map V.int = (if t = s then some v else getA f t).map V.int := by
    rw [← valV_kvI, ← putK_kvI, valV_put]
    by_cases e : t = s
    · subst e; rw [if_pos rfl, if_pos rfl]; rfl
    · rw [if_neg e, if_neg (fun z => e (Sum.inr.inj z)), valV_kvI]
  cases e1 : getA (putA f s v) t with
  | none =>
    rw [e1] at h
    cases e2 : (if t = s then some v else getA f t) with
    | none => rfl
    | some w => rw [e2] at h; cases h
  | some u =>
    rw [e1] at h
    cases e2 : (if t = s then some v else getA f t) with
    | none => rw [e2] at h; cases h
    | some w => rw [e2] at h; simp at h; rw [h]
theorem valA_addA (f : List (Str × Int)) (s t : Str) (i : Int) : valA (addA f s i) t = valA f t + if t = s then i else 0 := by
  unfold valA addA
  rw [getA_putA]
  by_cases e : t = s
  · subst e; rw [if_pos rfl, if_pos rfl]; rfl
  · rw [if_neg e, if_neg e]; omega
theorem getA_cons {α : Type} (y : Str × α) (l : List (Str × α)) (t : Str) : getA (y :: l) t = if y.1 = t then some y.2 else getA l t := by
  unfold getA
  rw [List.find?_cons]
  by_cases e : y.1 = t
  · rw [if_pos e, decide_eq_true e]; rfl
  · rw [if_neg e, decide_eq_false e]
theorem getA_none {α : Type} {l : List (Str × α)} {t : Str} (h : t ∉ l.map (·.1)) : getA l t = none := by
  cases e : getA l t with
  | none => rfl
  | some v => exact absurd (List.mem_map.mpr ⟨_, getA_mem e, rfl⟩) h
theorem valA_addAll {m : Int} {more : List (Str × Int)} (nd : (more.map (·.1)).Nodup) (f : List (Str × Int)) (t : Str) : valA (addAll m f more) t = valA f t + m * valA more t := by
  induction more generalizing f with
  | nil => show valA f t = valA f t + m * 0; omega
  | cons y more ih =>
    rw [List.map_cons] at nd
    obtain ⟨n1, n2⟩ := List.nodup_cons.mp nd
    show valA (addAll m (addA f y.1 (m * y.2)) more) t = _
    rw [ih n2, valA_addA]
    have hv : valA (y :: more) t = if y.1 = t then y.2 else valA more t := by
      unfold valA
      rw [getA_cons]
      by_cases e : y.1 = t
      · rw [if_pos e, if_pos e]; rfl
      · rw [if_neg e, if_neg e]
    rw [hv]
    by_cases e : t = y.1
    · subst e
      have h0 : valA more y.1 = 0 := by unfold valA; rw [getA_none n1]; rfl
      rw [if_pos rfl, if_pos rfl, h0]
      omega
    · rw [if_neg e, if_neg (fun z => e z.symm)]
      omega
/-- alike as sums -/
def Alk (f g : List (Str × Int)) : Prop := ∀ t, valA f t = valA g t
theorem fold_alk {g g' : Str → List (Str × Int)} {needs : List (Str × Int)} (h : ∀ p ∈ needs, ((g p.1).map (·.1)).Nodup ∧ ((g' p.1).map (·.1)).Nodup ∧ Alk (g p.1) (g' p.1)) {f f' : List (Str × Int)} (e : Alk f f') : Alk (needs.foldl (lawStep g) f) (needs.foldl (lawStep g') f') := by
  induction needs generalizing f f' with
  | nil => exact e
  | cons p needs ih =>
    obtain ⟨h1, h2, h3⟩ := h p (.head _)
    rw [List.foldl_cons, List.foldl_cons]
    refine ih (fun q hq => h q (.tail _ hq)) fun t => ?_
    unfold lawStep
    rw [valA_addAll h1, valA_addAll h2, valA_addA, valA_addA, e t, h3 t]
def Pos (f : List (Str × Int)) : Prop := ∀ y ∈ f, 0 < y.2
theorem putA_mem {f : List (Str × Int)} {s : Str} {v : Int} {y : Str × Int} (h : y ∈ putA f s v) : y = (s, v) ∨ y ∈ f := by
  unfold putA at h
  split at h
  · obtain ⟨z, hz, e⟩ := List.mem_map.mp h
    by_cases k : z.1 = s
    · rw [if_pos k] at e; exact .inl (by rw [← e, k])
    · rw [if_neg k] at e; exact .inr (e ▸ hz)
  · rcases List.mem_append.mp h with h | h
    · exact .inr h
    · exact .inl (List.mem_singleton.mp h)
theorem addA_pos {f : List (Str × Int)} {s : Str} {i : Int} (h : Pos f) (hi : 0 < i) : Pos (addA f s i) := by
  intro y hy
  rcases putA_mem hy with rfl | hy
  · show 0 < (getA f s).getD 0 + i
    cases e : getA f s with
    | none => show 0 < 0 + i; omega
    | some v => have : 0 < v := h _ (getA_mem e); show 0 < v + i; omega
  · exact h y hy
theorem addAll_pos {f more : List (Str × Int)} {m : Int} (h : Pos f) (hm : 0 < m) (hp : Pos more) : Pos (addAll m f more) := by
  unfold addAll
  induction more generalizing f with
  | nil => exact h
  | cons y more ih => exact ih (addA_pos h (Int.mul_pos hm (hp y (.head _)))) fun z hz => hp z (.tail _ hz)
theorem fold_pos {g : Str → List (Str × Int)} {needs : List (Str × Int)} (hn : Pos needs) (h : ∀ p ∈ needs, Pos (g p.1)) {f : List (Str × Int)} (hf : Pos f) : Pos (needs.foldl (lawStep g) f) := by
  induction needs generalizing f with
  | nil => exact hf
  | cons p needs ih => exact ih (fun z hz => hn z (.tail _ hz)) (fun q hq => h q (.tail _ hq)) (addAll_pos (addA_pos hf (hn p (.head _))) (hn p (.head _)) (h p (.head _)))
def Nng (f : List (Str × Int)) : Prop := ∀ y ∈ f, 0 ≤ y.2
theorem addA_nng {f : List (Str × Int)} {s : Str} {i : Int} (h : Nng f) (hi : 0 ≤ i) : Nng (addA f s i) := by
  intro y hy
  rcases putA_mem hy with rfl | hy
  · show 0 ≤ (getA f s).getD 0 + i
    cases e : getA f s with
    | none => show 0 ≤ 0 + i; omega
    | some v => have : 0 ≤ v := h _ (getA_mem e); show 0 ≤ v + i; omega
  · exact h y hy
theorem addAll_nng {f more : List (Str × Int)} {m : Int} (h : Nng f) (hm : 0 < m) (hp : Pos more) : Nng (addAll m f more) := by
  unfold addAll
  induction more generalizing f with
  | nil => exact h
  | cons y more ih => exact ih (addA_nng h (Int.le_of_lt (Int.mul_pos hm (hp y (.head _))))) fun z hz => hp z (.tail _ hz)
theorem fold_nng {g : Str → List (Str × Int)} {needs : List (Str × Int)} (hn : Pos needs) (h : ∀ p ∈ needs, Pos (g p.1)) {f : List (Str × Int)} (hf : Nng f) : Nng (needs.foldl (lawStep g) f) := by
  induction needs generalizing f with
  | nil => exact hf
  | cons p needs ih => exact ih (fun z hz => hn z (.tail _ hz)) (fun q hq => h q (.tail _ hq)) (addAll_nng (addA_nng hf (Int.le_of_lt (hn p (.head _)))) (hn p (.head _)) (h p (.head _)))
theorem filter_alk {f : List (Str × Int)} (nd : (f.map (·.1)).Nodup) (nn : Nng f) : Alk (f.filter fun p => decide (0 < p.2)) f := by
  intro t
  have nd2 : ((f.filter fun p => decide (0 < p.2)).map (·.1)).Nodup := nd.sublist (List.filter_sublist.map _)
  unfold valA
  cases e : getA f t with
  | none =>
    rw [getA_none]
    intro z
    obtain ⟨y, hy, rfl⟩ := List.mem_map.mp z
    have := (getA_isSome f y.1).mpr (List.mem_map.mpr ⟨y, (List.mem_filter.mp hy).1, rfl⟩)
    rw [e] at this
    cases this
  | some v =>
    have hm := getA_mem e
    by_cases hv : 0 < v
    · rw [getA_nodup (y := (t, v)) (List.mem_filter.mpr ⟨hm, decide_eq_true hv⟩) nd2]
    · have : v = 0 := by have : 0 ≤ v := nn _ hm; omega
      subst this
      cases e2 : getA (f.filter fun p => decide (0 < p.2)) t with
      | none => rfl
      | some u =>
        obtain ⟨h1, h2⟩ := List.mem_filter.mp (getA_mem e2)
        have := getA_nodup h1 nd
        rw [show (t, u).1 = t from rfl, e] at this
        exact (Option.some.inj this).symm
/-- alike, each key once, no zero: the same rows -/
theorem alk_mem {f g : List (Str × Int)} (nf : (f.map (·.1)).Nodup) (pf : Pos f) (e : Alk f g) {y : Str × Int} (h : y ∈ f) : getA g y.1 = some y.2 := by
  have h1 := e y.1
  unfold valA at h1
  rw [getA_nodup h nf] at h1
  have hp := pf y h
  cases e2 : getA g y.1 with
  | none => rw [e2] at h1; simp at h1; omega
  | some v => rw [e2] at h1; simp at h1; rw [h1]
theorem nodup_of_keys {f : List (Str × Int)} (h : (f.map (·.1)).Nodup) : f.Nodup := by
  induction f with
  | nil => exact List.nodup_nil
  | cons y f ih =>
    obtain ⟨n1, n2⟩ := List.nodup_cons.mp h
    exact List.nodup_cons.mpr ⟨fun z => n1 (List.mem_map.mpr ⟨y, z, rfl⟩), ih n2⟩
theorem perm_sum {l l' : List Int} (h : l.Perm l') : l.sum = l'.sum := by
  induction h with
  | nil => rfl
  | cons x _ ih => simp [ih]
  | swap x y l => simp; omega
  | trans _ _ a b => exact a.trans b
theorem alk_sum {f g : List (Str × Int)} (nf : (f.map (·.1)).Nodup) (ng : (g.map (·.1)).Nodup) (pf : Pos f) (pg : Pos g) (e : Alk f g) : (f.map (·.2)).sum = (g.map (·.2)).sum := by
  have p : f.Perm g := (List.perm_ext_iff_of_nodup (nodup_of_keys nf) (nodup_of_keys ng)).mpr fun y => ⟨fun h => getA_mem (alk_mem nf pf e h), fun h => getA_mem (alk_mem ng pg (fun t => (e t).symm) h)⟩
  exact perm_sum (p.map _)
/-! what stands behind each name -/
theorem getA_append {α : Type} (l l' : List (Str × α)) (s : Str) : getA (l ++ l') s = match getA l s with | some v => some v | none => getA l' s := by
  induction l with
  | nil => rfl
  | cons y l ih =>
    rw [List.cons_append, getA_cons, getA_cons, ih]
    by_cases e : y.1 = s
    · rw [if_pos e, if_pos e]
    · rw [if_neg e, if_neg e]
theorem led_more : ∀ (xs : List PRow) (ls : List (Str × List (Str × Int))), ∃ more, xs.foldl ledStep ls = ls ++ more
  | [], ls => ⟨[], by rw [List.append_nil]; rfl⟩
  | r :: xs, ls => by
    obtain ⟨more, h⟩ := led_more xs (ledStep ls r)
    refine ⟨(r.name, ledTo (ls.map (·.1) ++ [r.name]) ls r.needs) :: more, ?_⟩
    rw [List.foldl_cons, h]
    unfold ledStep
    rw [List.append_assoc]
    rfl
section
variable {rs : List PRow}
theorem ledOf_cut (j : Nat) {s : Str} (h : s ∈ (rs.take j).map (·.name)) : getA (ledOf rs) s = getA (ledOf (rs.take j)) s := by
  obtain ⟨more, e⟩ := led_more (rs.drop j) (ledOf (rs.take j))
  have e2 : ledOf rs = ledOf (rs.take j) ++ more := by
    rw [← e]
    unfold ledOf
    rw [← List.foldl_append, List.take_append_drop]
  obtain ⟨v, hv⟩ := getA_of_mem (l := ledOf (rs.take j)) (s := s) (by rw [ledOf_names]; exact h)
  rw [e2, getA_append, hv]
def ledN (rs : List PRow) (s : Str) : List (Str × Int) := (getA (ledOf rs) s).getD []
theorem fold_congr {g g' : Str → List (Str × Int)} {needs f : List (Str × Int)} (h : ∀ p ∈ needs, g p.1 = g' p.1) : needs.foldl (lawStep g) f = needs.foldl (lawStep g') f := by
  induction needs generalizing f with
  | nil => rfl
  | cons p needs ih =>
    have e : lawStep g f p = lawStep g' f p := by unfold lawStep; rw [h p (.head _)]
    rw [List.foldl_cons, List.foldl_cons, e]
    exact ih fun q hq => h q (.tail _ hq)
theorem ledRaw_eq (names : List Str) (ls : List (Str × List (Str × Int))) (needs : List (Str × Int)) : ledRaw names ls needs = needs.foldl (lawStep fun s => (getA ls s).getD []) (names.map fun s => (s, 0)) := rfl
/-- the row at j -/
theorem GoodBook.ledAt (G : GoodBook rs) {j : Nat} {r : PRow} (h : rs[j]? = some r) : getA (ledOf rs) r.name = some (ledTo ((rs.take (j + 1)).map (·.name)) (ledOf rs) r.needs) := by
  have R := G.row j r h
  have hm : r.name ∈ (rs.take (j + 1)).map (·.name) := by rw [take_succ_map h]; exact List.mem_append_right _ (.head _)
  rw [ledOf_cut (j + 1) hm, ledOf_take h, ledStep, getA_append, getA_none (by rw [ledOf_names]; exact R.new), getA_cons, if_pos rfl]
  have e : ledTo ((ledOf (rs.take j)).map (·.1) ++ [r.name]) (ledOf (rs.take j)) r.needs = ledTo ((rs.take (j + 1)).map (·.name)) (ledOf rs) r.needs := by
    unfold ledTo
    rw [ledRaw_eq, ledRaw_eq, ledOf_names, take_succ_map h]
    congr 1
    exact fold_congr fun p hp => by rw [ledOf_cut j (R.known p hp)]
  rw [e]
theorem led_pos : ∀ p ∈ ledOf rs, Pos p.2 := by
  suffices h : ∀ (xs : List PRow) (ls : List (Str × List (Str × Int))), (∀ p ∈ ls, Pos p.2) → ∀ p ∈ xs.foldl ledStep ls, Pos p.2 from h rs [] (fun _ h => nomatch h)
  intro xs
  induction xs with
  | nil => intro ls h; exact h
  | cons r xs ih =>
    intro ls h
    refine ih _ fun p hp => ?_
    rcases List.mem_append.mp hp with hp | hp
    · exact h p hp
    · rw [List.mem_singleton] at hp
      subst hp
      exact fun y hy => of_decide_eq_true (List.mem_filter.mp hy).2
/-- what a row's needs come to, counted from nothing -/
def total (rs : List PRow) (needs : List (Str × Int)) : List (Str × Int) := needs.foldl (lawStep (ledN rs)) []
theorem led_at (G : GoodBook rs) {s : Str} (h : s ∈ rs.map (·.name)) : getA (ledOf rs) s = some (ledN rs s) ∧ ((ledN rs s).map (·.1)).Nodup ∧ Pos (ledN rs s) ∧ ∀ y ∈ ledN rs s, y.1 ∈ rs.map (·.name) := by
  obtain ⟨m, hm⟩ := getA_of_mem (l := ledOf rs) (s := s) (by rw [ledOf_names]; exact h)
  have e : ledN rs s = m := by unfold ledN; rw [hm]; rfl
  rw [e]
  refine ⟨hm, G.nd.sublist (G.led_all _ (getA_mem hm)), led_pos _ (getA_mem hm), fun y hy => ?_⟩
  exact (G.led_all _ (getA_mem hm)).subset (List.mem_map.mpr ⟨y, hy, rfl⟩)
theorem GoodBook.pos (G : GoodBook rs) {j : Nat} {r : PRow} (h : rs[j]? = some r) : Pos r.needs := fun y hy => by have := ((G.row j r h).many y hy).1; omega
theorem GoodBook.known_all (G : GoodBook rs) {j : Nat} {r : PRow} (h : rs[j]? = some r) : ∀ x ∈ r.needs, x.1 ∈ rs.map (·.name) := fun x hx => names_take ((G.row j r h).known x hx)
theorem GoodBook.led_total (G : GoodBook rs) {j : Nat} {r : PRow} (h : rs[j]? = some r) : Alk (ledN rs r.name) (total rs r.needs) := by
  have e : ledN rs r.name = ledTo ((rs.take (j + 1)).map (·.name)) (ledOf rs) r.needs := by unfold ledN; rw [G.ledAt h]; rfl
  have known := G.known_all h
  rw [e]
  have keys := ledRaw_keys (names := (rs.take (j + 1)).map (·.name)) (ls := ledOf rs) (needs := r.needs) fun x hx => ⟨mem_take_names (Nat.le_succ j) ((G.row j r h).known x hx), fun m hm z hz => by
    rw [ledOf_cut j ((G.row j r h).known x hx)] at hm
    exact mem_take_names (Nat.le_succ j) (G.known j _ (getA_mem hm) z hz)⟩
  have nn : Nng (ledRaw ((rs.take (j + 1)).map (·.name)) (ledOf rs) r.needs) := by
    rw [ledRaw_eq]
    refine fold_nng (G.pos h) (fun p hp => (led_at G (known p hp)).2.2.1) fun y hy => ?_
    obtain ⟨s, _, rfl⟩ := List.mem_map.mp hy
    exact Int.le_refl _
  intro t
  unfold ledTo
  rw [filter_alk (by rw [keys]; exact G.nodup _) nn t, ledRaw_eq]
  refine fold_alk (fun p hp => ?_) (fun t => ?_) t
  · obtain ⟨h1, h2, _⟩ := led_at G (known p hp)
    rw [show (getA (ledOf rs) p.1).getD [] = ledN rs p.1 from rfl]
    exact ⟨h2, h2, fun _ => rfl⟩
  · unfold valA
    cases e : getA (((rs.take (j + 1)).map (·.name)).map fun s => ((s, 0) : Str × Int)) t with
    | none => rfl
    | some v =>
      obtain ⟨s, _, hs⟩ := List.mem_map.mp (getA_mem e)
      cases hs
      rfl
/-- the law's own count of some needs -/
theorem lawLed_total (G : GoodBook rs) : ∀ (n : Nat) (needs : List (Str × Int)), (∀ x ∈ needs, x.1 ∈ (rs.take n).map (·.name)) → Alk (lawLed rs n needs) (total rs needs)
  | 0, needs, h => by
    cases needs with
    | nil => exact fun _ => rfl
    | cons p needs => have := h p (.head _); cases this
  | n + 1, needs, h => by
    refine fold_alk (fun p hp => ?_) fun _ => rfl
    obtain ⟨r, hr, e, _, hn, _⟩ := G.at (h p hp)
    obtain ⟨j, hj⟩ := List.getElem?_of_mem hr
    rw [← e, needsOf_row G hr]
    refine ⟨(lawLed_fine G n r.needs hn).nd, ?_, fun t => ?_⟩
    · rw [e]; exact (led_at G (names_take (h p hp))).2.1
    · rw [lawLed_total G n r.needs hn t, G.led_total hj t]
theorem lawLed_pos (G : GoodBook rs) : ∀ (n : Nat) (needs : List (Str × Int)), (∀ x ∈ needs, x.1 ∈ (rs.take n).map (·.name)) → Pos needs → Pos (lawLed rs n needs)
  | 0, _, _, _ => fun _ h => nomatch h
  | n + 1, needs, h, hp => by
    refine fold_pos hp (fun p hq => ?_) fun _ h => nomatch h
    obtain ⟨r, hr, e, _, hn, hb, _⟩ := G.at (h p hq)
    rw [← e, needsOf_row G hr]
    exact lawLed_pos G n r.needs hn fun y hy => by have := (hb y hy).1; omega
end
end PM

/-! a book grows -/
namespace PM
open PySem L2
section
variable {rs : List PRow}
theorem ledTo_total (G : GoodBook rs) {nm : Str} (hnm : nm ∉ rs.map (·.name)) {needs : List (Str × Int)} (hn : ∀ x ∈ needs, x.1 ∈ rs.map (·.name)) (hp : Pos needs) :
    ((ledTo ((ledOf rs).map (·.1) ++ [nm]) (ledOf rs) needs).map (·.1)).Nodup ∧ Pos (ledTo ((ledOf rs).map (·.1) ++ [nm]) (ledOf rs) needs) ∧ Alk (ledTo ((ledOf rs).map (·.1) ++ [nm]) (ledOf rs) needs) (total rs needs) := by
  rw [ledOf_names]
  have hk : ∀ x ∈ needs, x.1 ∈ rs.map (·.name) ++ [nm] ∧ ∀ m, getA (ledOf rs) x.1 = some m → ∀ y ∈ m, y.1 ∈ rs.map (·.name) ++ [nm] := fun x hx => ⟨List.mem_append_left _ (hn x hx), fun m hm z hz => List.mem_append_left _ ((G.led_all _ (getA_mem hm)).subset (List.mem_map.mpr ⟨z, hz, rfl⟩))⟩
  have keys := ledRaw_keys hk
  have nd : (rs.map (·.name) ++ [nm]).Nodup := by
    refine List.nodup_append.mpr ⟨G.nd, List.nodup_cons.mpr ⟨(by simp), List.nodup_nil⟩, ?_⟩
    intro a ha b hb hab
    rw [List.mem_singleton] at hb
    subst hb hab
    exact hnm ha
  have nn : Nng (ledRaw (rs.map (·.name) ++ [nm]) (ledOf rs) needs) := by
    rw [ledRaw_eq]
    refine fold_nng hp (fun p hp => (led_at G (hn p hp)).2.2.1) fun y hy => ?_
    obtain ⟨s, _, rfl⟩ := List.mem_map.mp hy
    exact Int.le_refl _
  refine ⟨nd.sublist (ledTo_sub hk), fun y hy => of_decide_eq_true (List.mem_filter.mp hy).2, fun t => ?_⟩
  unfold ledTo
  rw [filter_alk (by rw [keys]; exact nd) nn t, ledRaw_eq]
  refine fold_alk (fun p hp => ?_) (fun t => ?_) t
  · obtain ⟨h1, h2, _⟩ := led_at G (hn p hp)
    rw [show (getA (ledOf rs) p.1).getD [] = ledN rs p.1 from rfl]
    exact ⟨h2, h2, fun _ => rfl⟩
  · unfold valA
    cases e : getA ((rs.map (·.name) ++ [nm]).map fun s => ((s, 0) : Str × Int)) t with
    | none => rfl
    | some v =>
      obtain ⟨s, _, hs⟩ := List.mem_map.mp (getA_mem e)
      cases hs
      rfl
theorem GoodBook.snoc (G : GoodBook rs) (h12 : rs.length < 12) {r : PRow} (R : GoodRow (rs.map (·.name)) r) {n : Nat} (hn : rs.length ≤ n) (hs : ((lawLed rs n r.needs).map (·.2)).sum ≤ 200) : GoodBook (rs ++ [r]) := by
  have hp : Pos r.needs := fun y hy => by have := (R.many y hy).1; omega
  have hk : ∀ x ∈ r.needs, x.1 ∈ (rs.take n).map (·.name) := fun x hx => by rw [List.take_of_length_le hn]; exact R.known x hx
  obtain ⟨q1, q2, q3⟩ := ledTo_total G R.new R.known hp
  have es : ((ledTo ((ledOf rs).map (·.1) ++ [r.name]) (ledOf rs) r.needs).map (·.2)).sum = ((lawLed rs n r.needs).map (·.2)).sum :=
    alk_sum q1 (lawLed_fine G n r.needs hk).nd q2 (lawLed_pos G n r.needs hk hp) fun t => by rw [q3 t, lawLed_total G n r.needs hk t]
  refine ⟨by rw [List.length_append, List.length_singleton]; omega, fun i x hi => ?_, fun p hp => ?_⟩
  · by_cases h : i < rs.length
    · rw [List.getElem?_append_left h] at hi
      rw [List.take_append_of_le_length (by omega)]
      exact G.row i x hi
    · have : i = rs.length := by
        have := (List.getElem?_eq_some_iff.mp hi).1
        rw [List.length_append, List.length_singleton] at this
        omega
      subst this
      rw [List.getElem?_append_right (Nat.le_refl _), Nat.sub_self] at hi
      cases hi
      rw [List.take_left]
      exact R
  · rw [ledOf_snoc] at hp
    rcases List.mem_append.mp hp with hp | hp
    · exact G.led p hp
    · rw [List.mem_singleton] at hp
      subst hp
      rw [es]
      exact hs
theorem GoodBook.nil : GoodBook [] := ⟨by decide, fun i r h => by simp at h, fun p h => nomatch h⟩
/-- a book cut -/
theorem GoodBook.cut (G : GoodBook rs) (n : Nat) : GoodBook (rs.take n) := by
  refine ⟨by have := G.len; rw [List.length_take]; omega, fun i r hi => ?_, fun p hp => G.led p (ledOf_sub n p hp)⟩
  have hin : i < n := by
    have := (List.getElem?_eq_some_iff.mp hi).1
    rw [List.length_take] at this
    omega
  rw [List.getElem?_take_of_lt hin] at hi
  rw [List.take_take, Nat.min_eq_left (Nat.le_of_lt hin)]
  exact G.row i r hi
end
/-- the law's names -/
abbrev signs12 : Str := "abcdefghijkl"
def nameAt (k : Nat) : Str := ("p" : Str) ++ ⟨#[signs12.cps.toList.getD k 0]⟩
theorem nameAt_ok : ∀ k : Fin 12, isNameM (nameAt k) = true := by decide +kernel
theorem nameAt_ne : ∀ i j : Fin 12, nameAt i = nameAt j → i = j := by decide +kernel
/-- the books the law makes -/
structure MyBook (rs : List PRow) : Prop where
  good : GoodBook rs
  names : ∀ i r, rs[i]? = some r → r.name = nameAt i
theorem MyBook.new {rs : List PRow} (M : MyBook rs) (h : rs.length < 12) : nameAt rs.length ∉ rs.map (·.name) := by
  intro z
  obtain ⟨r, hr, e⟩ := List.mem_map.mp z
  obtain ⟨i, hi⟩ := List.getElem?_of_mem hr
  have hl := (List.getElem?_eq_some_iff.mp hi).1
  rw [M.names i r hi] at e
  have := nameAt_ne ⟨i, by omega⟩ ⟨rs.length, h⟩ e
  have := Fin.mk.inj this
  omega
theorem MyBook.snoc {rs : List PRow} (M : MyBook rs) (h12 : rs.length < 12) {r : PRow} (hr : r.name = nameAt rs.length) (lot : 1 ≤ r.lot ∧ r.lot ≤ 99) (lead : 0 ≤ r.lead ∧ r.lead ≤ 30) (nd : (r.needs.map (·.1)).Nodup) (known : ∀ x ∈ r.needs, x.1 ∈ rs.map (·.name))
    (many : ∀ x ∈ r.needs, 1 ≤ x.2 ∧ x.2 ≤ 9) (few : r.steps.length ≤ 5) (steps : ∀ x ∈ r.steps, (0 ≤ x.1 ∧ x.1 < 6) ∧ 1 ≤ x.2 ∧ x.2 ≤ 99) {n : Nat} (hn : rs.length ≤ n) (hs : ((lawLed rs n r.needs).map (·.2)).sum ≤ 200) : MyBook (rs ++ [r]) := by
  refine ⟨M.good.snoc h12 ⟨by rw [hr]; exact nameAt_ok ⟨rs.length, h12⟩, by rw [hr]; exact M.new h12, lot, lead, nd, known, many, few, steps⟩ hn hs, fun i x hi => ?_⟩
  by_cases h : i < rs.length
  · rw [List.getElem?_append_left h] at hi
    exact M.names i x hi
  · have : i = rs.length := by
      have := (List.getElem?_eq_some_iff.mp hi).1
      rw [List.length_append, List.length_singleton] at this
      omega
    subst this
    rw [List.getElem?_append_right (Nat.le_refl _), Nat.sub_self] at hi
    cases hi
    exact hr
structure NsOk (rs : List PRow) (ns : List (Str × Int)) : Prop where
  nd : (ns.map (·.1)).Nodup
  known : ∀ x ∈ ns, x.1 ∈ rs.map (·.name)
  many : ∀ x ∈ ns, 1 ≤ x.2 ∧ x.2 ≤ 9
theorem NsOk.nil (rs : List PRow) : NsOk rs [] := ⟨List.nodup_nil, (fun _ h => nomatch h), (fun _ h => nomatch h)⟩
theorem NsOk.len {rs : List PRow} {ns : List (Str × Int)} (h : NsOk rs ns) : ns.length ≤ rs.length := by
  have := nodup_sub_length h.nd (l' := rs.map (·.name)) fun x hx => by
    obtain ⟨y, hy, rfl⟩ := List.mem_map.mp hx
    exact h.known y hy
  simpa using this
def StOk (st : List (Int × Int)) : Prop := st.length ≤ 5 ∧ ∀ x ∈ st, (0 ≤ x.1 ∧ x.1 < 6) ∧ 1 ≤ x.2 ∧ x.2 ≤ 99
end PM

/-! what the law asks -/
namespace PM
open PySem L2
section
variable {rs : List PRow}
theorem nameAt_shp : ∀ k : Fin 12, (nameAt k).cps.all (· < 0x110000) = true := by decide +kernel
theorem MyBook.shp (M : MyBook rs) {z : Str} (h : z ∈ rs.map (·.name)) : z.cps.all (· < 0x110000) = true := by
  obtain ⟨r, hr, rfl⟩ := List.mem_map.mp h
  obtain ⟨i, hi⟩ := List.getElem?_of_mem hr
  rw [M.names i r hi]
  have := (List.getElem?_eq_some_iff.mp hi).1
  have := M.good.len
  exact nameAt_shp ⟨i, by omega⟩
end
end PM

namespace PM
open PySem L2 WK
/-! who holds a piece, from it up -/
def Fl.up (fs : Fl) (k : Nat) : Option Nat := (fs.pcs[k]?).bind (·.above)
def Fl.chain (fs : Fl) : Nat → Nat → List Nat
  | 0, _ => []
  | n + 1, k => match fs.up k with
    | some u => u :: fs.chain n u
    | none => []
/-- a holder's part stands behind its pieces' parts in the book -/
theorem FlI.up_rank {fs : Fl} (I : FlI fs) {k u : Nat} (h : fs.up k = some u) : ∃ p q, fs.pcs[k]? = some p ∧ fs.pcs[u]? = some q ∧ p.above = some u ∧ ∀ n, q.part ∈ (fs.rs.take (n + 1)).map (·.name) → p.part ∈ (fs.rs.take n).map (·.name) := by
  unfold Fl.up at h
  cases hp : fs.pcs[k]? with
  | none => rw [hp] at h; cases h
  | some p =>
    rw [hp] at h
    have ha : p.above = some u := h
    obtain ⟨q, hq, hk⟩ := (I.pc k p hp).upper u ha
    refine ⟨p, q, rfl, hq, ha, fun n hn => ?_⟩
    obtain ⟨r, hr1, _, _, _, hr5⟩ := (I.pc u q hq).row
    obtain ⟨z, hz1, hz2⟩ := List.mem_map.mp (hr5 k hk p hp)
    obtain ⟨r', _, _, hr3', hr4', _⟩ := I.good.at hn
    have hrow : PM.rowOf fs.rs q.part = some r' := by
      unfold PM.rowOf
      rw [← List.head?_filter, hr3']
      rfl
    have : r' = r := Option.some.inj (hrow.symm.trans hr1)
    subst this
    rw [← hz2]
    exact hr4' z hz1
/-- how deep a piece can be -/
def Fl.Lv (fs : Fl) (k n : Nat) : Prop := ∃ p, fs.pcs[k]? = some p ∧ p.part ∈ (fs.rs.take n).map (·.name)
theorem Fl.Lv.zero {fs : Fl} {k : Nat} (h : fs.Lv k 0) : False := by
  obtain ⟨p, _, h2⟩ := h
  rw [List.take_zero] at h2
  cases h2
def Fl.kids (fs : Fl) (k : Nat) : List Nat := match fs.pcs[k]? with
  | some p => pcsOf p.holds
  | none => []
inductive Fl.Bel (fs : Fl) : Nat → Nat → Prop
  | one {x k : Nat} : fs.up x = some k → Fl.Bel fs x k
  | step {x y k : Nat} : fs.up x = some y → Fl.Bel fs y k → Fl.Bel fs x k
theorem Fl.Bel.trans {fs : Fl} {x y k : Nat} (h : fs.Bel x y) (g : fs.Bel y k) : fs.Bel x k := by
  induction h with
  | one h => exact .step h g
  | step h _ ih => exact .step h (ih g)
/-- from the upper end -/
theorem Fl.Bel.top {fs : Fl} {x k : Nat} (h : fs.Bel x k) : ∃ y, fs.up y = some k ∧ (x = y ∨ fs.Bel x y) := by
  induction h with
  | one h => exact ⟨_, h, .inl rfl⟩
  | step h _ ih =>
    obtain ⟨y, h1, h2⟩ := ih
    refine ⟨y, h1, .inr ?_⟩
    rcases h2 with rfl | h2
    · exact .one h
    · exact .step h h2
theorem Fl.Bel.ex {fs : Fl} (I : FlI fs) {x k : Nat} (h : fs.Bel x k) : (∃ p, fs.pcs[x]? = some p) ∧ ∃ p, fs.pcs[k]? = some p := by
  induction h with
  | one h => obtain ⟨p, q, hp, hq, _⟩ := I.up_rank h; exact ⟨⟨p, hp⟩, q, hq⟩
  | step h _ ih => obtain ⟨p, q, hp, hq, _⟩ := I.up_rank h; exact ⟨⟨p, hp⟩, ih.2⟩
/-- all that a piece holds, one behind the other -/
def Fl.kinP (fs : Fl) : Nat → Nat → List Nat
  | 0, _ => []
  | n + 1, k => (fs.kids k).flatMap fun x => x :: fs.kinP n x
/-! the chain -/
/-- how many may be below -/
def Fl.Ht (fs : Fl) (x a : Nat) : Prop := ∀ j, fs.Lv x j → a < j
/-- the one in which a piece is at last -/
def Fl.topOf (fs : Fl) (k : Nat) : Nat := ((k :: fs.chain 13 k).getLast?).getD k
end PM

namespace PM
open PySem L2 WK
/-! what a piece holds of each lot -/
def Fl.ownL (fs : Fl) (k j : Nat) : Int := match fs.pcs[k]? with
  | some p => ((lotsOf p.holds).map fun e => if e.1 = j then e.2 else 0).sum
  | none => 0
def Fl.tot (fs : Fl) : Nat → Nat → Nat → Int
  | 0, _, _ => 0
  | n + 1, k, j => fs.ownL k j + ((fs.kids k).map fun x => fs.tot n x j).sum
theorem ownL_at {fs : Fl} {k j : Nat} {p : Pc} (h : fs.pcs[k]? = some p) : fs.ownL k j = ((lotsOf p.holds).map fun e => if e.1 = j then e.2 else 0).sum := by unfold Fl.ownL; rw [h]
theorem sum_ite_lt {j n : Nat} (hj : n ≤ j) : ∀ {l : List (Nat × Int)}, (∀ x ∈ l, x.1 < n) → (l.map fun e => if e.1 = j then e.2 else 0).sum = 0
  | [], _ => rfl
  | a :: l, h => by
    have h1 := h a (.head _)
    have h2 := sum_ite_lt hj (l := l) fun x hx => h x (.tail _ hx)
    simp only [List.map_cons, List.sum_cons]
    rw [if_neg (by omega), h2]
    rfl
theorem FlI.ownL_out {fs : Fl} (I : FlI fs) (k : Nat) {j : Nat} (hj : fs.lots.length ≤ j) : fs.ownL k j = 0 := by
  unfold Fl.ownL
  cases hp : fs.pcs[k]? with
  | none => rfl
  | some p => exact sum_ite_lt hj fun x hx => ((I.pc k p hp).lots x hx).1
theorem sum_zero {α : Type} {f : α → Int} : ∀ {l : List α}, (∀ x ∈ l, f x = 0) → (l.map f).sum = 0
  | [], _ => rfl
  | a :: l, h => by
    simp only [List.map_cons, List.sum_cons]
    rw [h a (.head _), sum_zero fun x hx => h x (.tail _ hx)]
    rfl
/-- the pieces that a piece holds, rising; of which lots how many -/
def Fl.kinS (fs : Fl) (k : Nat) : List Nat := (List.range fs.pcs.length).filter fun x => decide (x ∈ fs.kinP 12 k)
def Fl.kinT (fs : Fl) (k : Nat) : List (Nat × Int) := ((List.range fs.lots.length).filter fun j => decide (0 < fs.tot 12 k j)).map fun j => (j, fs.tot 12 k j)
theorem sorted_one : ∀ {a b : List Int}, a.Perm b → a.Pairwise (· ≤ ·) → b.Pairwise (· ≤ ·) → a = b
  | [], b, h, _, _ => (List.Perm.nil_eq h)
  | x :: r, [], h, _, _ => absurd h.length_eq (by simp)
  | x :: r, y :: t, h, ha, hb => by
    have hx : x ∈ y :: t := h.subset (List.mem_cons_self ..)
    have hy : y ∈ x :: r := h.symm.subset (List.mem_cons_self ..)
    have h1 : x ≤ y := by
      rcases List.mem_cons.mp hy with e | m
      · omega
      · exact (List.pairwise_cons.mp ha).1 y m
    have h2 : y ≤ x := by
      rcases List.mem_cons.mp hx with e | m
      · omega
      · exact (List.pairwise_cons.mp hb).1 x m
    have e : x = y := by omega
    subst e
    rw [sorted_one h.cons_inv (List.pairwise_cons.mp ha).2 (List.pairwise_cons.mp hb).2]
/-- one list of ints: nodup, rising, its members -/
theorem range_sorted (n : Nat) (c : Nat → Bool) : (((List.range n).filter c).map fun (k : Nat) => (k : Int)).Pairwise (· ≤ ·) := by
  rw [List.pairwise_map]
  exact (List.Pairwise.sublist List.filter_sublist List.pairwise_lt_range).imp fun h => by omega
theorem sorted_range {ys : List Int} {l : List Nat} {n : Nat} (hp : ys.Perm (l.map fun (k : Nat) => (k : Int))) (hs : ys.Pairwise (· ≤ ·)) (nd : l.Nodup) (hl : ∀ x ∈ l, x < n) : ys = ((List.range n).filter fun x => decide (x ∈ l)).map fun (k : Nat) => (k : Int) := by
  refine sorted_one (hp.trans (List.Perm.map _ ?_)) hs (range_sorted n _)
  refine (List.perm_ext_iff_of_nodup nd (List.Pairwise.sublist List.filter_sublist List.nodup_range)).mpr fun x => ?_
  rw [List.mem_filter, List.mem_range, decide_eq_true_eq]
  exact ⟨fun h => ⟨hl x h, h⟩, fun h => h.2⟩
/-- a dict of lots: how many of each -/
structure LotIs (N : Nat) (m : List (Nat × Int)) (f : Nat → Int) : Prop where
  nd : (m.map (·.1)).Nodup
  get : ∀ j v, (j, v) ∈ m ↔ 0 < f j ∧ v = f j
  lt : ∀ j, 0 < f j → j < N
  nn : ∀ j, 0 ≤ f j
theorem LotIs.nil (N : Nat) : LotIs N [] fun _ => 0 := ⟨List.nodup_nil, fun j v => ⟨fun h => (nomatch h), fun h => absurd h.1 (by decide)⟩, fun j h => absurd h (by decide), fun _ => Int.le_refl _⟩
theorem LotIs.len {N : Nat} {m : List (Nat × Int)} {f : Nat → Int} (h : LotIs N m f) : m.length ≤ N := by
  have := nodup_sub_length h.nd (l' := List.range N) fun x hx => by
    obtain ⟨⟨j, v⟩, hm, rfl⟩ := List.mem_map.mp hx
    exact List.mem_range.mpr (h.lt j ((h.get j v).mp hm).1)
  rwa [List.length_map, List.length_range] at this
theorem LotIs.congr {N : Nat} {m : List (Nat × Int)} {f g : Nat → Int} (h : LotIs N m f) (e : ∀ j, f j = g j) : LotIs N m g := by
  have : f = g := funext e
  rw [← this]
  exact h
/-- what sorted tells of it -/
theorem LotIs.sorted {N : Nat} {m ys : List (Nat × Int)} {f : Nat → Int} (h : LotIs N m f) (hp : ys.Perm m) (hs : ys.Pairwise fun a b => a.1 < b.1) : ys = ((List.range N).filter fun j => decide (0 < f j)).map fun j => (j, f j) := by
  have key : ∀ (a b : List (Nat × Int)), (∀ x, x ∈ a ↔ x ∈ b) → a.Pairwise (fun a b => a.1 < b.1) → b.Pairwise (fun a b => a.1 < b.1) → a = b := by
    intro a
    induction a with
    | nil =>
      intro b he _ _
      cases b with
      | nil => rfl
      | cons y b => exact nomatch (he y).mpr (.head _)
    | cons x a ih =>
      intro b he ha hb
      cases b with
      | nil => exact nomatch (he x).mp (.head _)
      | cons y b =>
        obtain ⟨a1, a2⟩ := List.pairwise_cons.mp ha
        obtain ⟨b1, b2⟩ := List.pairwise_cons.mp hb
        have exy : x = y := by
          rcases List.mem_cons.mp ((he x).mp (.head _)) with e | hx
          · exact e
          · rcases List.mem_cons.mp ((he y).mpr (.head _)) with e | hy
            · exact e.symm
            · have := a1 y hy
              have := b1 x hx
              omega
        subst exy
        rw [ih b (fun z => ?_) a2 b2]
        constructor
        · intro hz
          rcases List.mem_cons.mp ((he z).mp (.tail _ hz)) with e | h
          · have := a1 z hz
            rw [e] at this
            omega
          · exact h
        · intro hz
          rcases List.mem_cons.mp ((he z).mpr (.tail _ hz)) with e | h
          · have := b1 z hz
            rw [e] at this
            omega
          · exact h
  refine key _ _ (fun x => ?_) hs ?_
  · rw [hp.mem_iff, List.mem_map]
    obtain ⟨j, v⟩ := x
    rw [h.get]
    constructor
    · rintro ⟨h1, h2⟩
      exact ⟨j, List.mem_filter.mpr ⟨List.mem_range.mpr (h.lt j h1), decide_eq_true h1⟩, by rw [h2]⟩
    · rintro ⟨i, hi, e⟩
      cases e
      exact ⟨of_decide_eq_true (List.mem_filter.mp hi).2, rfl⟩
  · rw [List.pairwise_map]
    exact (List.Pairwise.sublist List.filter_sublist List.pairwise_lt_range).imp fun h => h
/-! one more of a lot -/
def getN (m : List (Nat × Int)) (j : Nat) : Option Int := (m.find? fun p => decide (p.1 = j)).map (·.2)
def putN (m : List (Nat × Int)) (j : Nat) (v : Int) : List (Nat × Int) := if (m.any fun p => decide (p.1 = j)) = true then m.map (fun p => if p.1 = j then (p.1, v) else p) else m ++ [(j, v)]
theorem getN_of {m : List (Nat × Int)} {j : Nat} {v : Int} (nd : (m.map (·.1)).Nodup) (h : (j, v) ∈ m) : getN m j = some v := by
  unfold getN
  induction m with
  | nil => cases h
  | cons p m ih =>
    obtain ⟨n1, n2⟩ := List.nodup_cons.mp nd
    rcases List.mem_cons.mp h with rfl | h
    · rw [List.find?_cons_of_pos (by simp)]
      rfl
    · rw [List.find?_cons_of_neg (by
        intro e
        have e' : p.1 = j := of_decide_eq_true e
        exact n1 (by show p.1 ∈ _; rw [e']; exact List.mem_map.mpr ⟨(j, v), h, rfl⟩))]
      exact ih n2 h
theorem getN_no {m : List (Nat × Int)} {j : Nat} (h : ∀ v, (j, v) ∉ m) : getN m j = none := by
  unfold getN
  cases e : m.find? fun p => decide (p.1 = j) with
  | none => rfl
  | some p =>
    have h1 := List.mem_of_find?_eq_some e
    have h2 : p.1 = j := by simpa using List.find?_some e
    exact absurd (h2 ▸ h1 : (j, p.2) ∈ m) (h p.2)
theorem LotIs.getD {N : Nat} {m : List (Nat × Int)} {f : Nat → Int} (h : LotIs N m f) (j : Nat) : (getN m j).getD 0 = f j := by
  by_cases hj : 0 < f j
  · rw [getN_of h.nd ((h.get j (f j)).mpr ⟨hj, rfl⟩)]
    rfl
  · rw [getN_no fun v hv => hj ((h.get j v).mp hv).1]
    have := h.nn j
    show (0 : Int) = f j
    omega
end PM

namespace WK
open PySem PySem.Spec PyProof.Rows L2 PM
abbrev Led.ads (N : Led) : List Addr := N.map (·.1)
section
variable {F : Ent} {B H B' H' : Hp} {L L' : Led}
/-- the cells of a floor, that are looked at only -/
structure FH (CF CL CI : Addr) (B H : Hp) (A : AFl) : Prop where
  nd : ((FL CF CL CI A).map (·.1)).Nodup
  own : ∀ p ∈ FL CF CL CI A, H p.1 = some p.2 ∧ B p.1 = none
variable {CF CL CI : Addr} {A : AFl} {P : APc} {x : ALot} {k j : Nat} {o : HO} {a : Addr}
theorem Ok.fh (L0 : Led) (S : Ok F B (L0 ++ (FL CF CL CI A ++ L)) H) : FH CF CL CI B H A := by
  refine ⟨?_, fun p hp => S.own p (List.mem_append_right _ (List.mem_append_left _ hp))⟩
  have := S.nd
  rw [List.map_append, List.nodup_append, List.map_append, List.nodup_append] at this
  exact this.2.1.1
theorem Ok.fh0 (S : Ok F B (FL CF CL CI A ++ L) H) : FH CF CL CI B H A := S.fh []
theorem FH.fmem (h : FH CF CL CI B H A) (m : (a, o) ∈ FL CF CL CI A) : H a = some o := (h.own _ m).1
theorem FH.fcell (h : FH CF CL CI B H A) : H A.f = some (.ins CF A.dx (flF A)) := h.fmem (.head _)
theorem FH.fla (h : FH CF CL CI B H A) : H A.la = some (.lst (A.lots.map fun x => .ref x.a)) := h.fmem (.tail _ (.head _))
theorem FH.fna (h : FH CF CL CI B H A) : H A.na = some (.lst A.nv) := h.fmem (.tail _ (.tail _ (.tail _ (.head _))))
end
/-! d.items() as a value; sorted of it; sorted of a dict of any size -/
def itemsV (p d : Addr) : HO := .ext fun h => h.IsItemsView p d
section
variable {X : Cx}
def rItemsK : V → List V → Hp → VK → Prop := fun x xs H Q => ∃ (a : Addr) (kvs : List (Key × V)), x = .ref a ∧ xs = [] ∧ Rd H a (.dK kvs) ∧ ∀ p, H p = none → Q (.ref p) (upd H p (itemsV p a))
/-- sorted(d) of ints, any number of them -/
def rSortDB : List V → Hp → VK → Prop := fun xs H Q => ∃ (a : Addr) (kvs : List (Key × V)) (ks : List Int), xs = [.ref a] ∧ Rd H a (.dK kvs) ∧ kvs.map (·.1) = ks.map Sum.inl ∧ ks.length ≤ 1000 ∧
    ∀ (ys : List Int) (p : Addr), ys.Perm ks → ys.Pairwise (· ≤ ·) → H p = none → Q (.ref p) (upd H p (.lst (ys.map V.int)))
/-- sorted(d.items()), keys and values ints -/
def rSortItK : List V → Hp → VK → Prop := fun vs H Q => ∃ (p a : Addr) (m : List (Int × Int)), vs = [.ref p] ∧ H p = some (itemsV p a) ∧ Rd H a (.dK (m.map fun e => ((.inl e.1 : Key), V.int e.2))) ∧ m.length ≤ 1000 ∧ (m.map (·.1)).Nodup ∧
  ∀ (H' : Hp) (l : Addr) (ps : List (Addr × Int × Int)), Ex H H' → (ps.map (·.2)).Perm m → (ps.map (·.2)).Pairwise (fun a b => a.1 < b.1) → H l = none → H' l = some (.lst (ps.map fun z => V.ref z.1)) →
    (∀ z ∈ ps, H z.1 = none ∧ z.1 ≠ l ∧ H' z.1 = some (.tup [.int z.2.1, .int z.2.2])) → Q (.ref l) H'
def adrV : Value → Addr
  | .ref b => b
  | _ => 0
def kfOf (zs : List (Addr × Int × Int)) : Value → Int × Int
  | .ref b => ((zs.find? fun z => decide (z.1 = b)).map (·.2)).getD (0, 0)
  | _ => (0, 0)
end
section
variable {P : Program} {w : World} {K : PySem.W.Frag} {H B : Hp} {Q : VK} {F : Ent} {L : Led} {a p : Addr} {kvs : List (Key × V)}
end
end WK

/-! set(a list of ints), sorted(a set of ints), of any size -/
namespace WK
open PySem PySem.Spec PyProof.Rows L2
def seenI (ks : Nat → Int) (i : Nat) (k : Int) : Bool := (List.range i).any fun j => decide (ks j = k)
def unlikeI (ks : Nat → Int) : Nat → Nat
  | 0 => 0
  | i + 1 => if seenI ks i (ks i) = true then unlikeI ks i else unlikeI ks i + 1
section
variable {prog : Program} {w : World} {A : Around} {R : Result → Shared → Prop} {I : Addr} {fp wr : List Addr} {G : Array GenState → Array GenState → Prop} {n : Nat} {P : Nat → Value → Prop} {St : Nat → Shared → Prop}
end
section
variable {prog : Program} {w : World} {A : Around} {E : Value → Shared → Prop} {s : Shared}
end
section
variable {X : Cx}
def rSortSetB (w : World) : List V → Hp → VK → Prop := fun vs H Q => ∃ (a : Addr) (S : Int → Bool) (n : Nat), vs = [V.ref a] ∧ H a = some (SetO w a S n) ∧ n ≤ 1000 ∧
  ∀ (ns : List Int) (p : Addr), ns.Pairwise (· < ·) → (∀ k : Int, k ∈ ns ↔ S k = true) → H p = none → Q (.ref p) (upd H p (.lst (ns.map V.int)))
end
section
variable {P : Program} {w : World} {K : PySem.W.Frag} {H B : Hp} {Q : VK} {F : Ent} {L : Led} {a : Addr}
end
end WK

namespace WK
open PySem PySem.Spec PyProof.Rows L2 PySem.W PySem.Calls
/-! a, *r = a tuple -/
section
variable {prog : Program} {w : World} {A : Around} {E : Value → Shared → Prop}
end
section
variable {X : Cx} {pos : Pos}
def gStarT (K : PySem.W.Frag) (n i : Nat) (t : TGs) : TG := fun v σ H Q => ∃ a xs, v = .ref a ∧ SqT K H a xs ∧ n ≤ xs.length + 1 ∧ xs.length ≤ 16384 ∧
  ∀ p, H p = none → t (xs.take i ++ [.ref p] ++ (xs.drop i).drop (xs.length + 1 - n)) σ (upd H p (.lst ((xs.drop i).take (xs.length + 1 - n)))) Q
end
end WK

/-! an own exception class called with keywords alone: BaseException.__new__, then its own __init__ -/
namespace WK
open PySem PySem.Spec PyProof.Rows L2 PySem.HandSPX
section
variable {M : Model} {Ar : Around} {E : Value → Shared → Prop} {hp : Heap} {gs : Array GenState} {dr : Drawn} {tk : Nat} {ost : OsState}
variable {nm q : Str} {C N : Addr} {bs bm bmB : List Value} {hdct : Bool} {sn : List Str} {sub : List Value} {ab : Bool} {col : Option Bool} {dd : Option Addr} {k0 k1 k2 k3 k5 : Option Value} {Bn newId initId : String} {kw : List (Str × Value)}
theorem exk_check (F : ExcBaseFacts Bn newId initId bmB) (hT : ∀ T : String, bm.contains (.type T) = bmB.contains (.type T)) {Q : Unit → Shared → Prop}
    (hC : hp.get? C = some (excClassObj nm q C N bs bm hdct sn sub ab col dd k0 k1 k2 k3 k5 newId)) (hq : Q () ⟨hp, gs, dr, tk, ost⟩) : wpAny M Ar (checkBuiltinCall newId ⟨[.ref C], kw⟩) Q E ⟨hp, gs, dr, tk, ost⟩ := by
  have c1 : (Value.ref C :: bm).contains (.type Bn) = true := by rw [List.contains_cons, hT, F.hasB, Bool.or_true]
  have c2 := F.noStar
  simp only [checkBuiltinCall, F.newKind, F.newSplit, F.newRow]
  repeat (first
    | refine wpAny_loadPart_at hC ?_
    | (refine wpAny_isSubtype_exc hC ?_; rw [c1])
    | refine wpAny_staticBase_exc hC ?_
    | refine wpAny_madeBy_exc hC ?_
    | simp only [bne_self_eq_false, Bool.false_eq_true, if_false]
    | wp_step)
  exact hq
end
section
variable {prog : Program} {w : World} {Ar : Around} {E : Value → Shared → Prop} {R : Result → Shared → Prop} {hp : Heap} {gs : Array GenState} {dr : Drawn} {tk : Nat} {ost : OsState}
variable {nm q : Str} {C N : Addr} {bs bm bmB : List Value} {hdct : Bool} {sn : List Str} {sub : List Value} {ab : Bool} {col : Option Bool} {dd : Option Addr} {k0 k1 k2 k3 k5 : Option Value} {Bn newId initId : String} {kw : List (Str × Value)}
theorem exk_new (F : ExcBaseFacts Bn newId initId bmB) (hT : ∀ T : String, bm.contains (.type T) = bmB.contains (.type T))
    (hC : hp.get? C = some (excClassObj nm q C N bs bm hdct sn sub ab col dd k0 k1 k2 k3 k5 newId))
    (hq : R (.ok (.ret (.ref (hp.objs.size + 1)))) ⟨(hp.push (PySem.W.kdv_tup [])).push (excO C hp.objs.size), gs, dr, tk, ost⟩) :
    codeAny (model prog w) Ar (.builtin newId ⟨[.ref C], kw⟩) R ⟨hp, gs, dr, tk, ost⟩ := by
  have c0 := F.ends
  have c1 : (Value.ref C :: bm).contains (.type Bn) = true := by rw [List.contains_cons, hT, F.hasB, Bool.or_true]
  have c2 : (Value.ref C :: bm).contains (.type "AttributeError") = false := by rw [List.contains_cons, hT, F.noAttr]; rfl
  have c3 : (Value.ref C :: bm).contains (.type "NameError") = false := by rw [List.contains_cons, hT, F.noName]; rfl
  have c4 : ([] : List Value).length ≤ sizeLine := Nat.zero_le _
  refine codeAny_builtinAt F.entry ?_
  unfold Builtin.«BaseException.__new__»
  refine PySem.wpAt_bind ?_
  show PySem.wpAt _ _ _ (stack >>= _) _ _ _
  refine PySem.wpAt_bind (PySem.wpAt_stack fun _ _ => PySem.wpAt_of_wpAny ?_)
  wp_walk
  refine PySem.wpAt_of_wpAny ?_
  rw [F.owner]
  repeat (first
    | with_reducible refine wpAny_madeHere_exc F.canon hC ?_
    | with_reducible refine wpAny_loadPart_at hC ?_
    | (with_reducible refine wpAny_isSubtype_exc hC ?_; first | rw [c1] | rw [c2] | rw [c3])
    | wp_step)
  show R _ _
  rw [Heap.size_push]
  exact hq
theorem exk_typecall (F : ExcBaseFacts Bn newId initId bmB) (hT : ∀ T : String, bm.contains (.type T) = bmB.contains (.type T)) {fI : Addr} {Q : Fin → Shared → Prop}
    (hC : hp.get? C = some (excClassObj nm q C N bs bm hdct sn sub ab col dd k0 k1 k2 k3 k5 newId))
    (hi : W.Looks (model prog w) hp (typeLookup (.ref C) "__init__") (some (.ref fI))) (hb : ∀ self, W.Looks (model prog w) hp (bindSpecial (.ref fI) self) (.ref fI, [self]))
    (hq : codeAny (model prog w) Ar (.call (.ref fI) ⟨[.ref (hp.objs.size + 1)], kw⟩) (fun r s1 => match r with | .ok (.ret v) => v = .none ∧ Q (.done (.ret (.ref (hp.objs.size + 1)))) s1 | .ok _ => False | .error e => E e s1)
      ⟨(hp.push (PySem.W.kdv_tup [])).push (excO C hp.objs.size), gs, dr, tk, ost⟩) :
    wpAny (model prog w) Ar (Builtin.«type.__call__» ⟨[.ref C], kw⟩) Q E ⟨hp, gs, dr, tk, ost⟩ := by
  repeat (first
    | with_reducible refine wpAny_loadPart_at hC ?_
    | with_reducible refine wpAny_madeBy_exc hC ?_
    | wp_step)
  refine codeAny_call_builtin_code (Code.quiet_builtin _ F.quiet) (exk_check F hT hC (exk_new F hT hC ?_))
  show wpAny _ _ _ _ _ _
  have kp : ∀ b o, hp.get? b = some o → ((hp.push (PySem.W.kdv_tup [])).push (excO C hp.objs.size)).get? b = some o := fun b o e => Heap.get?_push_of_some _ (Heap.get?_push_of_some _ e)
  have hC1 := kp _ _ hC
  have hg : ((hp.push (PySem.W.kdv_tup [])).push (excO C hp.objs.size)).get? (hp.objs.size + 1) = some (excO C hp.objs.size) := by heap_get
  have c5 : (Value.ref C :: bm).contains (.ref C) = true := by simp
  have li := hi.keeps kp
  have lb := (hb (.ref (hp.objs.size + 1))).keeps kp
  unfold isInstance
  repeat (first
    | with_reducible refine wpAny_loadPart_at hg ?_
    | (with_reducible refine wpAny_isSubtype_exc hC1 ?_; rw [c5])
    | wp_step)
  show wpAny _ _ (typeLookup (.ref C) _) _ _ _
  refine li.at ?_
  refine wpAny_holding (wpAny_bind (lb.at ?_))
  refine wpAny_bind (wpAny_call (codeAny_mono hq fun r s1 z => ?_))
  cases r with
  | error e => exact z
  | ok fl =>
    cases fl with
    | ret v =>
      obtain ⟨rfl, z⟩ := z
      first
      | exact wpAny_pure (wpAny_pure z)
      | (wp_walk; exact z)
    | next => exact z.elim
    | brk => exact z.elim
    | cont => exact z.elim
theorem exk_call (F : ExcBaseFacts Bn newId initId bmB) (hT : ∀ T : String, bm.contains (.type T) = bmB.contains (.type T)) {fI : Addr}
    (hC : hp.get? C = some (excClassObj nm q C N bs bm hdct sn sub ab col dd k0 k1 k2 k3 k5 newId))
    (hi : W.Looks (model prog w) hp (typeLookup (.ref C) "__init__") (some (.ref fI))) (hb : ∀ self, W.Looks (model prog w) hp (bindSpecial (.ref fI) self) (.ref fI, [self]))
    (hq : codeAny (model prog w) (Ar.under (.builtin "type.__call__" ⟨[.ref C], kw⟩)) (.call (.ref fI) ⟨[.ref (hp.objs.size + 1)], kw⟩) (W.InitBack (hp.objs.size + 1) R)
      ⟨(hp.push (PySem.W.kdv_tup [])).push (excO C hp.objs.size), gs, dr, tk, ost⟩) :
    codeAny (model prog w) Ar (.call (.ref C) ⟨[], kw⟩) R ⟨hp, gs, dr, tk, ost⟩ := by
  have c1 := tc_lookup
  have c2 := tc_bind (.ref C)
  have hTy : (⟨hp, gs, dr, tk, ost⟩ : Shared).TypeIs (.ref C) "type" := ⟨_, hC, rfl⟩
  have hck : ∀ {M : Model} {Ar : Around} {E : Value → Shared → Prop} {Q : Unit → Shared → Prop}, Q () ⟨hp, gs, dr, tk, ost⟩ → wpAny M Ar (checkBuiltinCall "type.__call__" ⟨[.ref C], kw⟩) Q E ⟨hp, gs, dr, tk, ost⟩ := fun {M Ar E Q} hq => by
    have c3 := tc_sub
    simp only [checkBuiltinCall, tc_kind, tc_split]
    repeat (any_goals (first | assumption | with_reducible refine wpAny_loadPart_at hC ?_ | with_reducible refine wpAny_onRaise ?_ | with_reducible refine wpAny_map ?_ | wp_step))
  refine codeAny_of_tree ?_
  show wpAny _ _ (callAny (.ref C) _) _ _ _
  repeat (any_goals (first | assumption | with_reducible refine wpAny_loadPart_at hC ?_ | wp_step))
  refine ⟨rfl, ?_⟩
  refine codeAny_call_builtin_at (Code.quiet_builtin _ (by decide +kernel)) entry_typeCall (hck (exk_typecall F hT hC hi hb ?_))
  refine codeAny_mono hq fun r s1 z => ?_
  rcases r with e | (v | _ | _ | _) <;> exact z
end
end WK

/-! own exceptions: raised, let out of a def -/
namespace WK
open PySem PySem.Spec PyProof.Rows L2
/-! ### B.__init__(self, x), B a class of one's own over ValueError without own __init__ -/
structure ExBase (K : PySem.W.Frag) (CB : Addr) (mc : Value) : Prop where
  ga : PySem.W.specialIn K (.ref CB) "__getattribute__" = some (some (.builtin "type.__getattribute__"))
  rd : PySem.W.readsIn K CB mc = true
  vi : PySem.W.findCls K (.ref CB) mc "__init__" = some (.val (.builtin "ValueError.__init__"))
section
variable {X : Cx} {e : Expr} {es : List Expr} {ta : TA} {x : Str} {CB : Addr} {mc : Value} {p1 p2 pos : Pos}
theorem pe_baseinit {pl : Sem Bool} (EB : ExBase X.K CB mc) (hm : X.mg x = some (.ref CB)) (hg : Gl X x) (ha : PA X (e :: es) ta) (hdb : (x == ("__debug__" : Str)) = false := by decide)
    (hcl : eval (.Call (.Attribute (.Name x p1) "__init__" p2) (e :: es) [] pos) X.env = (do
      let who ← eval (.Name x p1) X.env
      standAt p2.atName
      let (fn, front) ← holding [who] (getMethod who "__init__" pl)
      callWith pos fn front (backTo pos (starEach (e :: es) X.env)) (backToKw pos (keywordEach [] X.env))) := by rfl)
    (hst : starEach (e :: es) X.env = (false, eval e X.env) :: starEach es X.env := by rfl) (hno : (backTo pos (starEach es X.env)).any (·.1) = false := by rfl) :
    PE X (.Call (.Attribute (.Name x p1) "__init__" p2) (e :: es) [] pos) (tVeI X.K ta) := by
  refine ⟨fun pins s σ H Q I hw => ?_⟩
  refine PySem.W.methodCall_KW (ld_glob I hg hm ?_ hdb) hcl
  refine PySem.W.method_cls I.kIn EB.ga (PySem.W.cls_value I.kIn EB.rd EB.vi (by decide +kernel) ?_)
  show wpAny _ _ (callWith pos (Value.builtin "ValueError.__init__") [] (backTo pos (starEach (e :: es) X.env)) []) _ _ _
  refine PyProof.Rows.callWith_method1 (thn (ha.run pos pins _ σ H _ (I.tok _) hw) fun us s1 ⟨vs, H1, I1, r1, a, C, ws, hvs, hlen, T, hat, q⟩ => ?_) hst hno
  subst hvs
  cases r1 with
  | @cons _ u0 _ ur ra rest =>
    obtain rfl : u0 = Value.ref a := ra
    have few : ur.length ≤ sizeLine := by
      rw [← Paired.length rest, sizeLine_eq]
      omega
    exact oinit_ok T I1 hat few fun s2 J => ⟨.non, H1, J, rfl, q⟩
end
/-! ### C(f = e): an own exception with one keyword -/
/-- what its __init__ promises -/
def spExI (C : Addr) (f : Str) : Sp := fun vs H Q _ => ∃ a y, vs = [.ref a, y] ∧ H a = some (exo a C none) ∧ ∀ dx, H dx = none → dx ≠ a → Q .non (upd (upd H dx (exd dx [(f, y)])) a (exo a C (some dx)))
/-- what the written part tells of such a class: its field f, its __init__ -/
structure ExK (P : Program) (w : World) (K : PySem.W.Frag) (mg : Str → Option Value) (base : Heap) (x : Str) (C : Addr) (f : Str) : Prop where
  oex : OexC K C
  mgx : mg x = some (.ref C)
  ini : ∃ (fI : Addr) (fd : FuncData) (g : List Value → List Value → List Value), FnOk P w K mg base CX0 1 fI fd ["self", f] (spExI C f) ∧
    PySem.W.findIn K (.ref C) "__init__" = some (some (.ref fI)) ∧ PySem.W.typeIn K (.ref fI) = some (.type "function") ∧ KBn K fd ["self", f] 1 [f] g (fun vs zs => vs ++ zs)
theorem kbn1 {K : PySem.W.Frag} {fd : FuncData} {f : Str} (h : ∀ u z : Value, bindArgs fd ⟨[u], [(f, z)]⟩ = pure [(("self" : Str), u), (f, z)]) : KBn K fd ["self", f] 1 [f] (fun us ws => us ++ ws) (fun vs zs => vs ++ zs) where
  to := fun s us ws _ h1 h2 => by
    match us, ws, h1, h2 with
    | [u], [z], _, _ => exact .of_eq (h u z)
  rel := fun r1 r2 => r1.append r2
/-- the reading of raise C(f = e) -/
def tRzK (C : Addr) (f : Str) (W : WX) (te : TE) : TS := fun _ σ H => te σ H fun y H1 => ∀ dx, H1 dx = none → W (.ref C) (some dx) σ (upd H1 dx (.xd [(f, y)]))
section
variable {X : Cx} {e : Expr} {te : TE} {x f : Str} {C : Addr} {p pos kp : Pos}
theorem pmk_exK (T : ExK X.prog X.w X.K X.mg X.base x C f) (hr : Room 2 X.A) (hg : Gl X x) (he : PE X e te) (hdb : (x == ("__debug__" : Str)) = false := by decide)
    (hall : (backToKw pos (keywordEach [⟨some f, e, kp⟩] X.env)).all (·.1.isSome) = true := by rfl) (hks : (backToKw pos (keywordEach [⟨some f, e, kp⟩] X.env)).filterMap (·.1) = [f] := by rfl)
    (hno : ((backTo pos (starEach [] X.env)).any (·.1) || (backToKw pos (keywordEach [⟨some f, e, kp⟩] X.env)).any (·.1.isNone)) = false := by rfl) :
    PMk X (.Call (.Name x p) [] [⟨some f, e, kp⟩] pos) (fun σ H Q => te σ H fun y H1 => ∀ dx, H1 dx = none → Q (.ref C) (some dx) (upd H1 dx (.xd [(f, y)]))) := by
  intro pins s σ H Q I hw
  obtain ⟨fI, fd, g, FI, iC, tI, hb⟩ := T.ini
  obtain ⟨nm, q, N, bs, bm, sn, sub, ab, col, dd, k0, k1, k2, k3, k5, hC, hbm⟩ := T.oex.cls
  refine wpAny_Call_Name_kw (ld_glob I hg T.mgx ?_ hdb)
  refine PySem.W.callWith_KW0 (h₀ := X.base) I.ok.mod.kin T.oex.kC hall ?_ hno
  have hkw : PK X [⟨some f, e, kp⟩] (tCons te tNil) := pk_cons he pk_nil
  refine thn (hkw.run pos pins s σ H (fun zs H1 => match zs with | [y] => ∀ dx, H1 dx = none → Q (.ref C) (some dx) (upd H1 dx (.xd [(f, y)])) | _ => False) I hw) fun ws s1 ⟨zs, H1, I1, rz, q1⟩ => ⟨I1.kIn, ?_⟩
  rw [hks]
  cases rz with
  | nil => exact q1.elim
  | @cons y u zs2 ws2 ru r2 =>
    cases r2 with
    | cons _ _ => exact q1.elim
    | nil =>
      show wpAny _ _ (call (.ref C) [] ([f].zip [u])) _ _ _
      obtain ⟨hp, gs, dr, tk, ost⟩ := s1
      have hsz : hp.objs.size ≤ hp.objs.size + 1 := Nat.le_succ _
      have hn : H1 (hp.objs.size + 1) = none := I1.hok.fresh hsz
      have kk : ∀ b o, hp.get? b = some o → ((hp.push (PySem.W.kdv_tup [])).push (PySem.HandSPX.excO C hp.objs.size)).get? b = some o := fun b o e => Heap.get?_push_of_some _ (Heap.get?_push_of_some _ e)
      have hget : ((hp.push (PySem.W.kdv_tup [])).push (PySem.HandSPX.excO C hp.objs.size)).get? (hp.objs.size + 1) = some (PySem.HandSPX.excO C hp.objs.size) := by heap_get
      have I2 : Inv X pins σ (upd H1 (hp.objs.size + 1) (exo (hp.objs.size + 1) C none)) ⟨(hp.push (PySem.W.kdv_tup [])).push (PySem.HandSPX.excO C hp.objs.size), gs, dr, tk, ost⟩ :=
        I1.laid (t' := tk) (a := hp.objs.size + 1) (o := exo (hp.objs.size + 1) C none) (h' := (hp.push (PySem.W.kdv_tup [])).push (PySem.HandSPX.excO C hp.objs.size)) kk hsz (exo_ok hget)
      have r3 : Vals (([V.ref (hp.objs.size + 1)] : List V) ++ [y]) (g [Value.ref (hp.objs.size + 1)] [u]) := hb.rel (vs := [V.ref (hp.objs.size + 1)]) (zs := [y]) (.cons rfl .nil) (.cons ru .nil)
      refine wpAny_call (exk_call PySem.F.excBase_ValueError (fun Y => PySem.HandSPX.refsVE_contains Y bm hbm) (I1.kIn _ _ hC) (PySem.W.looks_findIn I1.kIn iC) (fun self => PySem.W.bind_fn I1.kIn self tI)
        (codeAny_mono (FI.run _ X.stack _ _ ⟨[.ref (hp.objs.size + 1)], [f].zip [u]⟩ (g [Value.ref (hp.objs.size + 1)] [u]) [V.ref (hp.objs.size + 1), y]
          (fun v H2 => v = .non ∧ ∃ dx, dx ≠ hp.objs.size + 1 ∧ H1 dx = none ∧ H2 = upd (upd (upd H1 (hp.objs.size + 1) (exo (hp.objs.size + 1) C none)) dx (exd dx [(f, y)])) (hp.objs.size + 1) (exo (hp.objs.size + 1) C (some dx)))
          (fun _ _ _ => False) (hr.make C [] ([f].zip [u])) (I2.env0.make C [] ([f].zip [u])) (hb.to _ [.ref (hp.objs.size + 1)] [u] I2.kIn rfl rfl) r3
          ⟨hp.objs.size + 1, y, rfl, upd_same, fun dx h1 h2 => ⟨rfl, dx, h2, by rw [upd_ne h2] at h1; exact h1, rfl⟩⟩) fun r s2 hq => ?_))
      cases r with
      | error er => exact (show False from hq).elim
      | ok fl =>
        cases fl with
        | ret v0 =>
          obtain ⟨v, H2, os2, bare2, un2, hok2, rv, ev, dx, nd, hd1, eH⟩ := hq
          subst ev
          obtain ⟨h2, g2, d2, t2, os'⟩ := s2
          have ea : H2 (hp.objs.size + 1) = some (exo (hp.objs.size + 1) C (some dx)) := by rw [eH, upd_same]
          have ed : H2 dx = some (exd dx [(f, y)]) := by rw [eH, upd_ne nd, upd_same]
          have eh : upd (del H2 (hp.objs.size + 1)) dx (.xd [(f, y)]) = upd H1 dx (.xd [(f, y)]) := by
            funext b
            by_cases hb1 : b = dx
            · rw [hb1, upd_same, upd_same]
            · rw [upd_ne hb1, upd_ne hb1]
              by_cases hb2 : b = hp.objs.size + 1
              · rw [hb2, del_same, hn]
              · rw [del_ne hb2, eH, upd_ne hb2, upd_ne hb1, upd_ne hb2]
          exact ⟨rv, mk_end (raises_own T.oex.exC T.oex.tyC) I1 hsz kk un2 hok2 os2 bare2 ea ed hd1 (by rw [eh]; exact q1 dx hd1)⟩
        | next => exact False.elim hq
        | brk => exact False.elim hq
        | cont => exact False.elim hq
/-- raise C(f = e) -/
theorem ps_rzK {W : WX} {rpos : Pos} (T : ExK X.prog X.w X.K X.mg X.base x C f) (tk : Takes X W) (hr : Room 2 X.A) (hg : Gl X x) (hc : X.calm = true) (he : PE X e te) (hdb : (x == ("__debug__" : Str)) = false := by decide)
    (hall : (backToKw pos (keywordEach [⟨some f, e, kp⟩] X.env)).all (·.1.isSome) = true := by rfl) (hks : (backToKw pos (keywordEach [⟨some f, e, kp⟩] X.env)).filterMap (·.1) = [f] := by rfl)
    (hno : ((backTo pos (starEach [] X.env)).any (·.1) || (backToKw pos (keywordEach [⟨some f, e, kp⟩] X.env)).any (·.1.isNone)) = false := by rfl) :
    PS X (.Raise (some (.Call (.Name x p) [] [⟨some f, e, kp⟩] pos)) none rpos) (tRzK C f W te) :=
  ps_raise hc tk (pmk_exK T hr hg he hdb hall hks hno)
end
/-! ### C("..") : one without own __init__ -/
structure ExT (K : PySem.W.Frag) (mg : Str → Option Value) (x : Str) (C : Addr) : Prop where
  exIn : PySem.W.excIn K C [.type "ValueError", .type "Exception", .type "BaseException", .type "object"] "ValueError.__new__" = true
  mgx : mg x = some (.ref C)
  kC : PySem.W.keepIn K (.ref C) = true
  exC : PySem.W.subIn K (.ref C) (.type "BaseException") = some true
  tyC : PySem.W.typeIn K (.ref C) = some (.type "type")
def tRzT (C : Addr) (W : WX) : TS := fun _ σ H => W (.ref C) none σ H
section
variable {X : Cx} {x m : Str} {C : Addr} {j : Nat} {p p2 pos rpos : Pos}
theorem ps_rzT {W : WX} (T : ExT X.K X.mg x C) (tk : Takes X W) (hg : Gl X x) (hc : X.calm = true) (hdb : (x == ("__debug__" : Str)) = false := by decide) :
    PS X (.Raise (some (.Call (.Name x p) [.Constant (.str m) j p2] [] pos)) none rpos) (tRzT C W) :=
  ps_raise hc tk (pmk_own PySem.F.excBase_ValueError T.exIn T.mgx T.kC (raises_own T.exC T.tyC) hg hdb)
end
/-! ### calls of what may raise -/
section
variable {P : Program} {w : World} {K : PySem.W.Frag} {mg : Str → Option Value} {base : Heap}
def FnGX (P : Program) (w : World) (K : PySem.W.Frag) (mg : Str → Option Value) (base : Heap) (k : Nat) (x : Str) (ps : List Str) (sp : Sp) : Prop :=
  ∃ f fd, FnOk P w K mg base (L2.CX P w) k f fd ps sp ∧ mg x = some (.ref f) ∧ PySem.W.keepIn K (.ref f) = true ∧ Binds K fd ps []
def MtGX (P : Program) (w : World) (K : PySem.W.Frag) (mg : Str → Option Value) (base : Heap) (k : Nat) (C : Addr) (m : Str) (ps : List Str) (sp : Sp) : Prop :=
  ∃ f fd, FnOk P w K mg base (L2.CX P w) k f fd ps sp ∧ Meth K C m f ∧ Binds K fd ps [] ∧ Cls K C
def tFnX (sp : Sp) (E : XK) (t : TA) : TE := fun σ H Q => t σ H fun vs H1 => sp vs H1 Q E
def tMthX (C : Addr) (m : Str) (sp : Sp) (E : XK) (ta : TE) (t : TA) : TE := fun σ H Q => ta σ H fun x H1 => ∃ a dx fs, x = .ref a ∧ H1 a = some (.ins C dx fs) ∧ fs.lookup m = none ∧
  t σ H1 fun vs H2 => sp (x :: vs) H2 Q E
theorem tFnX_eq {sp : Sp} {E : XK} {t : TA} : tCall sp [] E t = tFnX sp E t := by
  unfold tCall tFnX
  simp only [List.append_nil]
theorem tMthX_eq {C : Addr} {m : Str} {sp : Sp} {E : XK} {ta : TE} {t : TA} : tMeth C m sp [] E ta t = tMthX C m sp E ta t := by
  unfold tMeth tMthX
  simp only [List.append_nil]
/-- it keeps the one promise, or the other -/
theorem _root_.L2.FnOk.orK {j k : Nat} {f : Addr} {fd : FuncData} {ps : List Str} {CX : CXT} {sp sp' : Sp} (F0 : FnOk P w K mg base CX j f fd ps sp) (F1 : FnOk P w K mg base CX k f fd ps sp') (h : j ≤ k) : FnOk P w K mg base CX k f fd ps (fun vs H Q E => sp vs H Q E ∨ sp' vs H Q E) :=
  ⟨fun vs H Q E q => q.elim (F0.len vs H Q E) (F1.len vs H Q E), fun A outer s H args us vs Q E hr he hb hv hs => hs.elim
    (fun z => (F0.mono h).run A outer s H args us vs Q E hr he hb hv z) (fun z => F1.run A outer s H args us vs Q E hr he hb hv z)⟩
variable {X : Cx} {k : Nat} {C : Addr} {x m : Str} {ps : List Str} {sp : Sp} {E : XK} {e o : Expr} {es : List Expr} {p pos apos : Pos} {t : TA} {ta : TE}
theorem pe_fnX (GX : FnGX X.prog X.w X.K X.mg X.base k x ps sp) (hr : Room k X.A) (hx : Passes (L2.CX X.prog X.w) X E) (hg : Gl X x) (ha : PA X (e :: es) t) (hdb : (x == ("__debug__" : Str)) = false := by decide)
    (hst : starEach (e :: es) X.env = (false, eval e X.env) :: starEach es X.env := by rfl) (hno : (backTo pos (starEach es X.env)).any (·.1) = false := by rfl) : PE X (.Call (.Name x p) (e :: es) [] pos) (tFnX sp E t) := by
  obtain ⟨f, fd, FX, hm, hk, hb⟩ := GX
  rw [← tFnX_eq]
  exact pe_call FX hr hg hm hk hb .nil hx ha hdb hst hno
theorem pe_mthX {pl : Sem Bool} (GX : MtGX X.prog X.w X.K X.mg X.base k C m ps sp) (hr : Room k X.A) (hx : Passes (L2.CX X.prog X.w) X E) (ho : PE X o ta) (ha : PA X (e :: es) t)
    (hst : starEach (e :: es) X.env = (false, eval e X.env) :: starEach es X.env := by rfl) (hno : (backTo pos (starEach es X.env)).any (·.1) = false := by rfl)
    (hcl : eval (.Call (.Attribute o m apos) (e :: es) [] pos) X.env = (do
      let who ← eval o X.env
      standAt apos.atName
      let (fn, front) ← holding [who] (getMethod who m pl)
      callWith pos fn front (backTo pos (starEach (e :: es) X.env)) (backToKw pos (keywordEach [] X.env))) := by rfl) : PE X (.Call (.Attribute o m apos) (e :: es) [] pos) (tMthX C m sp E ta t) := by
  obtain ⟨f, fd, FX, hm, hb, c⟩ := GX
  rw [← tMthX_eq]
  exact pe_meth ho c hm FX hr hb .nil hx ha hst hno hcl
def MthXQ (C : Addr) (m : Str) (sp : Sp) (E : XK) (t : TA) (σ : L2.St) (Q : VK) : VK := fun x H1 => ∃ a dx fs, x = .ref a ∧ H1 a = some (.ins C dx fs) ∧ fs.lookup m = none ∧ t σ H1 fun vs H2 => sp (x :: vs) H2 Q E
theorem r_fnX {σ : L2.St} {H : Hp} {Q : VK} (kk : t σ H fun vs H1 => sp vs H1 Q E) : tFnX sp E t σ H Q := kk
theorem r_mthX {σ : L2.St} {H : Hp} {Q : VK} (kk : ta σ H (MthXQ C m sp E t σ Q)) : tMthX C m sp E ta t σ H Q := kk
theorem mthXQ {σ : L2.St} {H : Hp} {Q : VK} {a dx : Addr} {fs : List (Str × V)} (h : H a = some (.ins C dx fs)) (hl : fs.lookup m = none) (kk : t σ H fun vs H2 => sp (.ref a :: vs) H2 Q E) : MthXQ C m sp E t σ Q (.ref a) H := ⟨a, dx, fs, rfl, h, hl, kk⟩
/-- what is refused, ready to be let out -/
def RzQ (C : Addr) (f : Str) (W : WX) (σ : L2.St) : VK := fun y H1 => ∀ dx, H1 dx = none → W (.ref C) (some dx) σ (upd H1 dx (.xd [(f, y)]))
theorem r_rzK {σ : L2.St} {H : Hp} {D : Ends} {W : WX} {f : Str} {te : TE} (kk : te σ H (RzQ C f W σ)) : tRzK C f W te D σ H := kk
theorem r_rzT {σ : L2.St} {H : Hp} {D : Ends} {W : WX} (kk : W (.ref C) none σ H) : tRzT C W D σ H := kk
end
end WK

/-! lambdas handed on; what is asked of a caught error -/
namespace WK
open PySem PySem.Spec PyProof.Rows L2
/-! ### a table of code objects in one's own ledger -/
def TabL (B : Hp) (q : Str) (ps : Array Value) : Prop := TriplesOk ps.toList ∧ ∀ (pos : Pos) (cv : Value), codeAmong pos ps.toList = some cv → ∃ c, cv = .ref c ∧ B c = some (LamX.CodeO c q)
theorem TabL.up {B B' : Hp} {q : Str} {ps : Array Value} (h : TabL B q ps) (e : Ex B B') : TabL B' q ps := ⟨h.1, fun pos cv hc => let ⟨c, e1, e2⟩ := h.2 pos cv hc; ⟨c, e1, e _ _ e2⟩⟩
theorem TabL.nil {B : Hp} {q : Str} : TabL B q #[] := ⟨True.intro, fun pos cv hc => by
  have z : codeAmong pos [] = some cv := hc
  simp [codeAmong] at z⟩
/-- what making a lambda leaves of the table -/
def NewTab (H : Hp) (P : Addr) (q : Str) (ps : Array Value) (H1 : Hp) : Prop := H1 = H ∨ ∃ (c : Addr) (more : Array Value), H c = none ∧ H1 = upd (upd H P (.tbl (ps ++ more))) c (LamX.CodeO c q) ∧ TriplesOk (ps ++ more).toList ∧ ∀ (pos : Pos) (cv : Value), codeAmong pos (ps ++ more).toList = some cv → codeAmong pos ps.toList = some cv ∨ cv = .ref c
theorem Ok.newTab {F : Ent} {B H H1 : Hp} {L : Led} {P : Addr} {q : Str} {ps : Array Value} (S : Ok F B ((P, .tbl ps) :: L) H) (T : TabL B q ps) (n : NewTab H P q ps H1) : ∃ B' ps', Ex B B' ∧ TabL B' q ps' ∧ Ok F B' ((P, .tbl ps') :: L) H1 := by
  rcases n with rfl | ⟨c, more, hc, rfl, h1, h2⟩
  · exact ⟨B, ps, Ex.refl _, T, S⟩
  · have hP : H P = some (.tbl ps) := (S.own _ (.head _)).1
    have ncP : c ≠ P := fun z => by rw [z, hP] at hc; cases hc
    have S1 := S.mut (o' := .tbl (ps ++ more))
    have hc1 : upd H P (.tbl (ps ++ more)) c = none := by rw [upd_ne ncP]; exact hc
    refine ⟨upd B c (LamX.CodeO c q), ps ++ more, S1.exB hc1, ⟨h1, fun pos cv h => ?_⟩, S1.newB hc1⟩
    rcases h2 pos cv h with z | z
    · exact (T.up (S1.exB hc1)).2 pos cv z
    · exact ⟨c, z, upd_same⟩
section
variable {X : Cx} {pins : List (Addr × Obj)} {σ : L2.St} {H : Hp} {s : Shared}
/-- a lambda without defaults is made -/
theorem lam_new {c P : Addr} {q : Str} {ps : Array Value} {params : Arguments} {body : Expr} {scope : Scope} {pos : Pos} {E : Value → Shared → Prop} {Q : Value → Shared → Prop} (I : Inv X pins σ H s) (TB : LamX.TabB X.base X.mg c P) (hcode : X.env.code = .ref c) (hq : X.env.qual ++ "<lambda>" = q)
    (hP : H P = some (.tbl ps)) (ht : TriplesOk ps.toList) (ha : ∀ (pos : Pos) (cv : Value), codeAmong pos ps.toList = some cv → ∃ c, cv = .ref c ∧ H c = some (LamX.CodeO c q)) (hdef : defaultsOf params X.env = ([], [])) (hfree : ∀ y ∈ scope.names, y.2 = .free → ∃ c, X.env.cells.lookup y.1 = some c)
    (kk : ∀ (f c' : Addr) (pm ctv : Value) (H1 : Hp) (s' : Shared), Inv X pins σ H1 s' → NewTab H P q ps H1 → s'.heap.get? f = some (PySem.W.kla_obj "<lambda>" (X.env.qual ++ "<lambda>") params body scope (cloFrom X.env.cells scope.names []) pm c' ctv) →
      H1 f = none → f ∉ frs X.stack → H1 c' = some (LamX.CodeO c' q) → Q (.ref f) s') :
    wpAny (model X.prog X.w) X.A (eval (.Lambda params body scope pos) X.env) Q E s := by
  subst hq
  refine PySem.W.kla_eval hdef ?_
  have hPm : s.heap.get? P = some { cls := .none, data := .fields ps } := I.hok P _ hP
  have bP : s.heap.BuiltinsAt X.mg P := TB.bm.keeps I.bk
  have far : ∀ f, s.heap.objs.size ≤ f → f ∉ frs X.stack := fun f hf z => by
    rcases List.mem_cons.mp (I.stkSub _ z) with e | e
    · have old := I.lt
      rw [← e] at old
      exact Nat.lt_irrefl _ (Nat.lt_of_lt_of_le old hf)
    · exact I.nofs hf e
  cases hc : codeAmong pos ps.toList with
  | some cv =>
    obtain ⟨c', rfl, hco⟩ := ha pos cv hc
    refine PySem.W.kla_makeFunctionHit (mg := X.mg) (c := c) (P := P) (ps := ps) (closure_ok hfree) I.ok.glob (I.mod.glob.keeps I.bk) hcode (TB.code.keeps I.bk) hPm ht hc bP fun ctv h' tk hx hsz => ?_
    exact kk h'.objs.size c' ((X.mg "__name__").getD .none) ctv H _ (I.kept (t' := tk) fun b o e => Heap.get?_push_of_some _ (hx b o e)) (.inl rfl) (Heap.get?_push_size _ rfl) (I.hok.fresh hsz) (far _ hsz) hco
  | none =>
    refine PySem.W.kla_makeFunction (mg := X.mg) (c := c) (P := P) (ps := ps) (closure_ok hfree) I.ok.glob (I.mod.glob.keeps I.bk) hcode (TB.code.keeps I.bk) hPm ht hc TB.gP bP fun c' ctv h' tk hx hge hlt hrec htb => ?_
    obtain ⟨c2, oc, vs, t, e2, hoc, hd, hv⟩ := hrec
    cases e2
    have hsz : s.heap.objs.size ≤ h'.objs.size := Nat.le_trans hge (Nat.le_of_lt hlt)
    have nC : H c' = none := I.hok.fresh hge
    have I1 := LamX.inv_table (t' := tk) (more := #[rawInt pos.line, rawInt pos.col, .ref c']) (h' := h'.push (PySem.W.kla_obj "<lambda>" (X.env.qual ++ "<lambda>") params body scope (cloFrom X.env.cells scope.names []) ((X.mg "__name__").getD .none) c' ctv)) I hP
      (fun b o hb e => Heap.get?_push_of_some _ (hx b o hb e)) (Heap.get?_push_of_some _ htb) hge ⟨oc, vs, t, Heap.get?_push_of_some _ hoc, hd, hv⟩
    have eL : (ps ++ #[rawInt pos.line, rawInt pos.col, .ref c']).toList = ps.toList ++ [rawInt pos.line, rawInt pos.col, .ref c'] := by simp
    have n1 : h'.objs.size ≠ c' := Nat.ne_of_gt hlt
    have n2 : h'.objs.size ≠ P := Nat.ne_of_gt (Nat.lt_of_lt_of_le (Heap.lt_size hPm) hsz)
    refine kk h'.objs.size c' ((X.mg "__name__").getD .none) ctv _ _ I1 (.inr ⟨c', _, nC, rfl, by rw [eL]; exact PySem.TriplesOk_snoc _ _ _ _ ht, fun p' cv hcv => ?_⟩) (Heap.get?_push_size _ rfl) ?_ (far _ hsz) upd_same
    · rw [eL] at hcv
      exact LamX.among_app _ ht hcv
    · rw [upd_ne n1, upd_ne n2]
      exact I.hok.fresh hsz
end
/-- x(lambda: body), the table of one's own -/
def tLamK (P : Addr) (q : Str) (TT : (XK → Hp → VK → Prop) → Hp → VK → Prop) (t : XK → TE) : TE := fun σ H Q => ∃ ps, H P = some (.tbl ps) ∧ TriplesOk ps.toList ∧ (∀ (pos : Pos) (cv : Value), codeAmong pos ps.toList = some cv → ∃ c, cv = .ref c ∧ H c = some (LamX.CodeO c q)) ∧
  ∀ H1, NewTab H P q ps H1 → TT (fun E H' Q' => t E σ H' Q') H1 Q
section
variable {X : Cx}
theorem pe_lamK {TT : (XK → Hp → VK → Prop) → Hp → VK → Prop} {x a q : Str} {g c P : Addr} {k : Nat} {pg : Arguments} {bg : List Stmt} {sg : Scope} {dV kV doc pm cdv ct oc : Value} {an od : Option Addr} {osl : Array (Option Value)} {Ng : List Str}
    {params : Arguments} {body : Expr} {scope : Scope} {t : XK → TE} {p lpos pos : Pos} (hm : X.mg x = some (.ref g)) (hk : PySem.W.keepIn X.K (.ref g) = true)
    (lk : X.K.lookup g = some ⟨oc, od, .func (PySem.W.fnOf x x pg bg sg dV kV doc pm an cdv ct), osl⟩) (hcg : PySem.W.codeIn X.K cdv x = true) (hb : L2.Binds X.K (PySem.W.fnOf x x pg bg sg dV kV doc pm an cdv ct) [a] [])
    (TB : LamX.TabB X.base X.mg c P) (hcode : X.env.code = .ref c) (hq : X.env.qual ++ "<lambda>" = q) (hr : Room (k + 2) X.A) (hG : LamX.GivesTo X Ng x sg g cdv bg a q TT)
    (hg : Gl X x) (Sg : FnScope Ng [a] sg) (hNg : Ng[0]? = some a) (hva : Vis sg a) (L : LamX.LamS X.env.scope scope) (hdef : defaultsOf params X.env = ([], []))
    (hbind : ∀ (q : Str) (cl : List (Str × Addr)) (pm cv ctv : Value), bindArgs (PySem.W.kla_fn "<lambda>" q params body scope cl pm cv ctv) ⟨[], []⟩ = pure [])
    (hbody : ∀ (A : Around) (outer : List Env) (s : Shared) (H : Hp) (E : XK) (f c' : Addr), Room k (A.deeper (LamX.lamEnv X scope s.heap.objs.size f c')) → PE (LamX.lamCx X A outer s H E scope f c') body (t E))
    (hdb : (x == ("__debug__" : Str)) = false := by decide) (hd : (a == ("__debug__" : Str)) = false := by decide) (hcd : (a == ("__classdict__" : Str)) = false := by decide) :
    PE X (.Call (.Name x p) [.Lambda params body scope lpos] [] pos) (tLamK P q TT t) := by
  subst hq
  refine ⟨fun pins s σ H Q I hw => ?_⟩
  obtain ⟨ps, hP, ht, hT, kk⟩ := hw
  refine wpAny_Call_Name_kw (ld_glob I hg hm ?_ hdb)
  refine PySem.W.callWith_K (h₀ := X.base) I.ok.mod.kin hk ?_ (by rfl) (by rfl)
  show wpAny _ _ (spliced ((false, eval (.Lambda params body scope lpos) X.env) :: backTo pos (starEach [] X.env))) _ _ s
  refine Calls.spliced_cons (lam_new I TB hcode rfl hP ht hT hdef (L.has I.ok) fun f c' pm' ctv H1 s1 I1 nt hf hfn hfr hco => ?_)
  refine Calls.spliced_nil ⟨I1.kIn, ?_⟩
  have rc : codeAny (model X.prog X.w) X.A (.call (.ref g) ⟨[.ref f], []⟩) (CR C8.CX0 X.stack X.prog X.w H1 s1 Q C8.E0) s1 := by
    refine LamX.run_ofS (N := Ng) (ps := [a]) (us := [.ref f]) (vs := [.ref f]) lk hcg Sg hr I1.env0 (hb s1 [.ref f] I1.kIn rfl) (.cons rfl .nil) rfl fun hr1 => ?_
    obtain ⟨tz, hz, hqz⟩ := hG f c' s1 H1 Q (fun E H' Q' => t E σ H' Q') (fun W pn xe E p1 p2 tk hW => LamX.pe_act (i := 0) I1 L hf hfn hfr (hbind _ _ _ _ _) tk hW hr1 (fun A outer s H hr2 => hbody A outer s H E f c' hr2) hNg hva hd hcd) hco (kk H1 nt)
    exact ⟨tz, hz.nox, hqz⟩
  refine wpAny_call (codeAny_mono rc fun r s2 hz => ?_)
  cases r with
  | error e => exact (show False from hz).elim
  | ok fl =>
    cases fl with
    | ret u => exact I1.after hz
    | next => exact False.elim hz
    | brk => exact False.elim hz
    | cont => exact False.elim hz
end
/-! ### isinstance of a caught error, with its dict or without -/
def XdAt (H : Hp) : Option Addr → Prop
  | none => True
  | some d => ∃ fs, H d = some (.xd fs)
def rIsD (K : PySem.W.Frag) (D a : Addr) (d : Option Addr) : List V → Hp → VK → Prop := fun xs H Q => ∃ (c : V) (cv : Value) (b : Bool), xs = [.ref a, c] ∧ (∀ u, RelV c u → u = cv) ∧ PySem.W.kitOne K (.ref D) cv = some b ∧ XdAt H d ∧ Q (.bl b) H
theorem call_isD {X : Cx} {a D : Addr} {d : Option Addr} {oe : Obj} {pn : List (Addr × Obj)} (C : ExcC X.K D) (hz : Zc (.ref D) d oe) (hf : ∃ vs, oe.data = .fields vs) : CallR (X.suite a ((a, oe) :: pn)) (.builtin "isinstance") (rIsD X.K D a d) := by
  intro pins s σ H xs us Q I r hw
  obtain ⟨c, cv, b, rfl, hcv, e, hd, q⟩ := hw
  cases r with
  | cons rx rr =>
    cases rr with
    | cons rt rr =>
      cases rr
      cases rx
      have ec := hcv _ rt
      subst ec
      obtain ⟨hget, _⟩ := I.pin (a, oe) (List.mem_append.mpr (.inl List.mem_cons_self))
      obtain ⟨vs, hv⟩ := hf
      have J : ∃ od, PySem.W.InstAt s.heap a oe D od := by
        obtain ⟨oc, odd, oda, osl⟩ := oe
        obtain ⟨h1, h2⟩ := hz
        dsimp only at h1 h2 hv
        subst h1 h2 hv
        cases odd with
        | none => exact ⟨none, hget, rfl, rfl, trivial⟩
        | some dd =>
          obtain ⟨fs, hdd⟩ := hd
          have hx : ObjOk X.prog X.w H s.heap dd (.xd fs) := I.hok dd _ hdd
          obtain ⟨mA, hns, _⟩ := hx
          obtain ⟨o, ho, _⟩ := lookIn_ns hns
          exact ⟨some o, hget, rfl, rfl, ho⟩
      obtain ⟨od, J⟩ := J
      refine PySem.W.kia_one (PySem.W.kitx_exc (od := od) (ox := oe) (x := a) (C := D) ?_ C.hg C.hk C.hs C.ha C.hn C.ht C.hm) I.kIn J e (fun z => nomatch z) fun tk => ⟨.bl b, H, I.kept (t' := tk) fun _ _ z => z, rfl, q⟩
      obtain ⟨cd, hc, _⟩ := PySem.W.any_some C.hd
      rw [hc]
      rfl
/-! ### l.count(x) of data -/
def rCountD (K : PySem.W.Frag) : V → List V → Hp → VK → Prop := fun x vs H Q => ∃ (l : Addr) (xs : List V) (ds : List PyData) (y : V) (d : PyData), x = .ref l ∧ vs = [y] ∧ SqL K H l xs ∧ DpAll K H xs ds ∧ Dp K H y d ∧ PyData.plainAll ds = true ∧ d.plain = true ∧ d.depth ≤ 60 ∧ Q (.int ((ds.countP fun z => PyData.eqv z d : Nat) : Int)) H
theorem mt_countD {X : Cx} (hu : X.A.units + 64 < cLine) : MtR X "list.count" (rCountD X.K) := by
  intro pins s σ H x vs v us Q I rx rv hw
  obtain ⟨l, xs, ds, y, d, rfl, rfl, hl, hds, hy, p1, p2, p3, q⟩ := hw
  cases rx
  obtain ⟨u, rfl, ru⟩ := rv.one
  obtain ⟨its, rs, pl, _⟩ := I.list hl
  obtain ⟨as, r1⟩ := Dp.readsAll I ds _ its hds rs
  obtain ⟨bs, r2⟩ := Dp.reads I d y u hy ru
  refine PySem.SeqAt.count_list_data (vs := its.toArray) pl.isList (by simpa using r1) r2 p1 p2 (by omega) ?_
  exact ⟨.int _, H, I.kept (t' := s.toks + 1) (fun _ _ z => z), ⟨_, rfl⟩, q⟩
/-- what stays known where a heap grows -/
theorem Ok.grow {F : Ent} {B H H2 : Hp} {L : Led} (S : Ok F B L H) (e : Ex H H2) : Ok F B L H2 :=
  ⟨S.ex.trans e, S.nd, fun p hp => ⟨e _ _ (S.own p hp).1, (S.own p hp).2⟩, S.ex0, fun a o h n => e _ _ (S.keep a o h n), fun a h => let ⟨o, z⟩ := S.kA a h; ⟨o, e _ _ z⟩, S.fB, S.fL⟩
theorem Ok.growB {F : Ent} {B H H2 : Hp} {L : Led} {t : Addr} {o : HO} (S : Ok F B L H) (e : Ex H H2) (n : H t = none) (h : H2 t = some o) : Ok F (upd B t o) L H2 := by
  have S1 : Ok F (upd B t o) L (upd H t o) := S.newB n
  refine S1.grow fun a u z => ?_
  by_cases hb : a = t
  · rw [hb, upd_same] at z
    cases z
    rw [hb]
    exact h
  · rw [upd_ne hb] at z
    exact e _ _ z
theorem ix_listK (K : PySem.W.Frag) {X : Cx} (hK : X.K = K := by rfl) : IxR X (rIxL K) := by
  subst hK
  exact ix_list
theorem mt_countK (K : PySem.W.Frag) {X : Cx} (hu : X.A.units + 64 < cLine) (hK : X.K = K := by rfl) : MtR X "list.count" (rCountD K) := by
  subst hK
  exact mt_countD hu
/-- slots are as many as names -/
theorem takes_len {X : Cx} {W : WX} (tk : Takes X W) : Takes X (fun c d σ H => σ.length = X.N.length → W c d σ H) := fun u s1 ⟨a, B, sI, pins, σ, H, cls, d, e, I, nb, up, sky, na, os, ag, w⟩ => tk u s1 ⟨a, B, sI, pins, σ, H, cls, d, e, I, nb, up, sky, na, os, ag, w I.len⟩
theorem XdAt.up {H H1 : Hp} {d : Option Addr} (h : XdAt H d) (e : Ex H H1) : XdAt H1 d := by
  cases d with
  | none => trivial
  | some d => obtain ⟨fs, h⟩ := h; exact ⟨fs, e _ _ h⟩
theorem b_ValueError : bootBuiltins "ValueError" = some (.type "ValueError") := PyProof.Rows.Boot.«ValueError»
/-! ### a def whose code object is told -/
structure FunC (K : PySem.W.Frag) (x qual : Str) (st : Stmt) (f c : Addr) (fd : FuncData) : Prop where
  ex : ∃ (oc : Value) (od : Option Addr) (kV doc pm : Value) (an : Option Addr) (ct : Value) (osl : Array (Option Value)),
    fd = PySem.W.fnOf x qual (defArgs st) (defBody st) (defScope st) .none kV doc pm an (.ref c) ct ∧ K.lookup f = some ⟨oc, od, .func fd, osl⟩ ∧ PySem.W.codeIn K (.ref c) qual = true
  kp : PySem.W.keepIn K (.ref f) = true
section
variable {P : Program} {w : World} {K : PySem.W.Frag} {mg : Str → Option Value} {base : Heap}
theorem FunC.okC {x qual : Str} {st : Stmt} {f c : Addr} {fd : FuncData} {N ps : List Str} {k : Nat} {sp : Sp} (F : FunC K x qual st f c fd) (S : FnScope N ps (defScope st)) (len : ∀ vs H Q E, sp vs H Q E → vs.length = ps.length)
    (hb : ∀ (A : Around) (outer : List Env) (s : Shared) (H : Hp) (vs : List V) (Q : VK) (E : XK), Room k (A.deeper (envOfC qual (defScope st) s.heap.objs.size f (.ref c))) → sp vs H Q E →
      ∃ t, PSs (cxOf CX0 P w K mg base N qual (defScope st) f (.ref c) A outer s H E).nox (defBody st) t ∧ t { nx := fun _ H' => Q .non H', rt := Q } (start N vs) H) : FnOk P w K mg base CX0 (k + 1) f fd ps sp := by
  obtain ⟨oc, od, kV, doc, pm, an, ct, osl, rfl, lk, hcd⟩ := F.ex
  refine fn_of lk hcd S len fun A outer s H vs Q E hr hsp => ?_
  obtain ⟨t, ht, hq⟩ := hb A outer s H vs Q E hr hsp
  exact ⟨t, ht.nox, hq⟩
end
theorem lamKQ {F : Ent} {B H : Hp} {L : Led} {PT : Addr} {q : Str} {ps : Array Value} {TT : (XK → Hp → VK → Prop) → Hp → VK → Prop} {t : XK → TE} {σ : L2.St} {Q : VK} (S : Ok F B ((PT, .tbl ps) :: L) H) (T : TabL B q ps)
    (kk : ∀ B' ps' H1, Ex B B' → TabL B' q ps' → Ok F B' ((PT, .tbl ps') :: L) H1 → TT (fun E H' Q' => t E σ H' Q') H1 Q) : tLamK PT q TT t σ H Q :=
  ⟨ps, (S.own _ (.head _)).1, T.1, fun pos cv h => let ⟨c, e1, e2⟩ := T.2 pos cv h; ⟨c, e1, S.ex _ _ e2⟩, fun H1 n => let ⟨B', ps', e, T', S'⟩ := S.newTab T n; kk B' ps' H1 e T' S'⟩
/-! ### the end of a law, the tables of some of its defs told -/
theorem walk_ofTabs {l : PySem.W.OpenLaw} {n k : Nat} {q : Program} {loose : List Str} {XP : (Str → Option Value) → Heap → Prop} {YP : World → Heap → Prop} {d : DefRec} {K : Params → PySem.W.Frag} {x : Str} (ys : List Str)
    (hn : l.most = some n) (hn2 : n ≤ sizeLine) (hdf : d.params.defaults = []) (hr : Room k callerA) (hrec : ∀ y ∈ ys, ((recsOf q).find? (fun e => e.name == y)).isSome = true) (hY : ∀ (w : World) (h : Heap), YP w h → (K w.params).In h)
    (F : ∀ (w : World) (mg : Str → Option Value) (fa : Addr) (h : Heap), (K w.params).In h → h.Ns mainGlobals mg → mg d.name = some (.ref fa) → (∀ y ∈ ys, ∀ c PT, PySem.W.tabIn (K w.params) y = some (c, PT) → PySem.W.CodeHd h c PT ∧ h.get? PT = some { cls := .none, data := .fields #[] }) →
      LamX.LawAtS l w (K w.params) CX0 k n x mg fa h) :
    PySem.W.WalkO q loose XP YP l.row.toRowW d [] (fun f vs => PySem.call f vs) := by
  refine Att.attach_callB hn hdf fun w s₀ s₁ mg mb fa o pm cd doc a vs ns G Y ho hd hcd hmg hobj hints hlen hbits hg => ?_
  have KX := hY w _ Y
  obtain ⟨fd, cs, sp, hT, nT, C, hb, hsp, hF⟩ := F w mg fa _ KX G.T.g hmg fun y hy c PT e => by
    obtain ⟨e1, h1⟩ := Option.isSome_iff_exists.mp (hrec y hy)
    exact PySem.W.tab_of G.T KX h1 e
  exact LamX.law_callTs KX G.T.g G.T.b G.T.builtins G.T.nolimit hg hT nT C G.T.bmain hobj hints (Nat.le_trans hlen hn2) hr hF hb (fun H hH hS => hsp H a ns hlen hbits hH hS) fun H e s' z => z
end WK

/-! ledgers put in another order, by numbers -/
namespace WK
open PySem PySem.Spec PyProof.Rows L2
theorem getD_range {α : Type} (d : α) : ∀ (ls : List α), (List.range ls.length).map (fun i => ls.getD i d) = ls := fun ls => by
  refine List.ext_getElem (by rw [List.length_map, List.length_range]) fun i h1 h2 => ?_
  rw [List.getElem_map, List.getElem_range, List.getD_eq_getElem?_getD, List.getElem?_eq_getElem h2]
  rfl
theorem permI {α : Type} (ls : List (List α)) (is : List Nat) {l1 l2 : List α} (h1 : l1 = ls.flatten := by kpr_short) (h2 : l2 = (is.map fun i => ls.getD i []).flatten := by kpr_short) (hn : ls.length = is.length := by rfl) (hp : (List.range is.length).isPerm is = true := by decide) : l1.Perm l2 := by
  subst h1 h2
  rw [← hn] at hp
  have h := (List.isPerm_iff.mp hp).map (fun i => ls.getD i [])
  rw [getD_range] at h
  exact h.flatten
/-- the ledger's parts, named from the left, put in another order -/
theorem Ok.permI {F : Ent} {B H : Hp} {L L' : Led} (S : Ok F B L H) (ls : List Led) (is : List Nat) (h1 : L = ls.flatten := by kpr_short) (h2 : L' = (is.map fun i => ls.getD i []).flatten := by kpr_short) (hn : ls.length = is.length := by rfl) (hp : (List.range is.length).isPerm is = true := by decide) : Ok F B L' H := S.perm (WK.permI ls is h1 h2 hn hp)
end WK

namespace PM
open PySem L2 WK
/-! lots: what was bought of each is what is left of it and what pieces hold -/
def ownP (p : Pc) (j : Nat) : Int := ((lotsOf p.holds).map fun e => if e.1 = j then e.2 else 0).sum
def Fl.heldAll (fs : Fl) (j : Nat) : Int := (fs.pcs.map fun p => ownP p j).sum
def Fl.cons (fs : Fl) (j : Nat) : Option (Str × Int) := (fs.lots[j]?).map fun x => (x.part, x.left + fs.heldAll j)
def Deed.buyOf : Deed → Option (Str × Int × Int)
  | .buy z m pr => some (z, m, pr)
  | _ => none
def buysOf (b : List Deed) : List (Str × Int × Int) := b.filterMap Deed.buyOf
def LotC (fs : Fl) : Prop := ∀ j, fs.cons j = ((buysOf fs.book)[j]?).map fun b => (b.1, b.2.1)
theorem set_same {α : Type} {l : List α} {k : Nat} {v : α} (h : l[k]? = some v) : l.set k v = l := by
  refine List.ext_getElem? fun i => ?_
  by_cases e : i = k
  · subst e
    rw [List.getElem?_set_self (List.getElem?_eq_some_iff.mp h).1, h]
  · rw [List.getElem?_set_ne (Ne.symm e)]
theorem map_set_same {α β : Type} {f : α → β} {l : List α} {k : Nat} {x y : α} (h : l[k]? = some x) (e : f y = f x) : (l.set k y).map f = l.map f := by
  rw [List.map_set, e]
  exact set_same (by rw [List.getElem?_map, h]; rfl)
theorem cons_same {fs fs' : Fl} (hl : fs'.lots = fs.lots) (hp : ∀ j, (fs'.pcs.map fun p => ownP p j) = fs.pcs.map fun p => ownP p j) : fs'.cons = fs.cons := funext fun j => by
  unfold Fl.cons Fl.heldAll
  rw [hl, hp]
theorem give_cons (n : Nat) (h : Hold) (fs : Fl) : (fs.give n h).cons = fs.cons := by
  unfold Fl.give
  cases h with
  | pc k =>
    dsimp only
    cases hq : fs.pcs[k]? with
    | none => rfl
    | some q =>
      cases hp : fs.pcs[n]? with
      | none => rfl
      | some p =>
        refine cons_same rfl fun j => ?_
        dsimp only
        rw [List.map_set, map_set_same (f := fun p => ownP p j) (y := { q with state := "within", above := some n }) hq rfl]
        refine set_same ?_
        rw [List.getElem?_map, hp]
        show some (ownP p j) = some (ownP { p with holds := p.holds ++ [.pc k], cost := p.cost + q.cost } j)
        unfold ownP
        dsimp only
        rw [lotsOf_app]
        show _ = some (((lotsOf p.holds ++ []).map _).sum)
        rw [List.append_nil]
  | lot i m =>
    dsimp only
    cases hx : fs.lots[i]? with
    | none => rfl
    | some x =>
      cases hp : fs.pcs[n]? with
      | none => rfl
      | some p =>
        refine funext fun j => ?_
        unfold Fl.cons Fl.heldAll
        dsimp only
        rw [sum_set (fun p => ownP p j) hp]
        have e1 : ownP { p with holds := p.holds ++ [.lot i m], cost := p.cost + m * x.price } j = ownP p j + if i = j then m else 0 := by
          unfold ownP
          dsimp only
          rw [lotsOf_app, List.map_append, List.sum_append]
          show _ + ((if i = j then m else 0) + 0) = _
          rw [Int.add_zero]
        rw [e1]
        by_cases e : i = j
        · subst e
          rw [List.getElem?_set_self (List.getElem?_eq_some_iff.mp hx).1, hx, if_pos rfl]
          show some (x.part, (x.left - m) + _) = some (x.part, x.left + _)
          congr 2
          omega
        · rw [List.getElem?_set_ne e, if_neg e]
          congr 1
          refine funext fun y => ?_
          congr 1
          omega
theorem giveAll_cons (n : Nat) : ∀ (hs : List Hold) (fs : Fl), (fs.giveAll n hs).cons = fs.cons
  | [], _ => rfl
  | h :: hs, fs => (giveAll_cons n hs (fs.give n h)).trans (give_cons n h fs)
theorem buys_snoc (b : List Deed) (d : Deed) : buysOf (b ++ [d]) = buysOf b ++ d.buyOf.toList := by
  unfold buysOf
  rw [List.filterMap_append]
  cases h : d.buyOf with
  | none => simp [h]
  | some v => simp [h]
theorem buys_no {b : List Deed} {d : Deed} (h : d.buyOf = none) : buysOf (b ++ [d]) = buysOf b := by
  rw [buys_snoc, h]
  exact List.append_nil _
theorem LotC.same {fs fs' : Fl} (C : LotC fs) (hc : fs'.cons = fs.cons) (hb : buysOf fs'.book = buysOf fs.book) : LotC fs' := fun j => by rw [hc, hb]; exact C j
theorem LotC.lots {fs : Fl} (C : LotC fs) {j : Nat} {x : Lt} (h : fs.lots[j]? = some x) : ∃ b, (buysOf fs.book)[j]? = some b ∧ b.1 = x.part ∧ b.2.1 = x.left + fs.heldAll j := by
  have := C j
  unfold Fl.cons at this
  rw [h] at this
  cases hb : (buysOf fs.book)[j]? with
  | none => rw [hb] at this; cases this
  | some b =>
    rw [hb] at this
    have e := Option.some.inj this
    exact ⟨b, rfl, (congrArg Prod.fst e).symm, (congrArg Prod.snd e).symm⟩
theorem LotC.len {fs : Fl} (C : LotC fs) : (buysOf fs.book).length = fs.lots.length := by
  have key : ∀ j, ((buysOf fs.book)[j]?).isSome = (fs.lots[j]?).isSome := fun j => by
    have := congrArg Option.isSome (C j)
    unfold Fl.cons at this
    rw [Option.isSome_map, Option.isSome_map] at this
    exact this.symm
  have a := key fs.lots.length
  have b := key (buysOf fs.book).length
  rw [List.getElem?_eq_none (Nat.le_refl _)] at a
  rw [List.getElem?_eq_none (Nat.le_refl _)] at b
  have h1 : (buysOf fs.book).length ≤ fs.lots.length := by
    refine Nat.le_of_not_lt fun h => ?_
    rw [List.getElem?_eq_getElem h] at a
    cases a
  have h2 : fs.lots.length ≤ (buysOf fs.book).length := by
    refine Nat.le_of_not_lt fun h => ?_
    rw [List.getElem?_eq_getElem h] at b
    cases b
  omega
theorem stripLot_left : ∀ (xs : List (Nat × Int)) (l : List Lt) (h : Int) (j : Nat), (xs.foldl stripLot (l, h)).1[j]? = (l[j]?).map fun x => { x with left := x.left + (xs.map fun e => if e.1 = j then e.2 else 0).sum }
  | [], l, h, j => by
    cases e : l[j]? with
    | none => exact e
    | some x =>
      show l[j]? = some { x with left := x.left + 0 }
      rw [Int.add_zero]
      exact e
  | x :: xs, l, h, j => by
    rw [List.foldl_cons]
    cases hy : l[x.1]? with
    | none =>
      have e0 : stripLot (l, h) x = (l, h) := by unfold stripLot; dsimp only; rw [hy]
      rw [e0, stripLot_left xs l h j]
      by_cases e : x.1 = j
      · subst e
        rw [hy]
        rfl
      · simp only [List.map_cons, List.sum_cons, if_neg e, Int.zero_add]
    | some y =>
      have e0 : stripLot (l, h) x = (l.set x.1 { y with left := y.left + x.2 }, h + x.2 * y.price) := by unfold stripLot; dsimp only; rw [hy]
      rw [e0, stripLot_left xs _ _ j]
      by_cases e : x.1 = j
      · subst e
        rw [List.getElem?_set_self (List.getElem?_eq_some_iff.mp hy).1, hy]
        simp only [Option.map_some, List.map_cons, List.sum_cons]
        rw [if_pos trivial, Int.add_assoc]
      · rw [List.getElem?_set_ne e]
        simp only [List.map_cons, List.sum_cons, if_neg e, Int.zero_add]
theorem stripPc_own (j : Nat) : ∀ (ks : List Nat) (l : List Pc) (h : Int), ((ks.foldl stripPc (l, h)).1.map fun p => ownP p j) = l.map fun p => ownP p j
  | [], _, _ => rfl
  | k :: ks, l, h => by
    rw [List.foldl_cons]
    cases hq : l[k]? with
    | none =>
      have e0 : stripPc (l, h) k = (l, h) := by unfold stripPc; dsimp only; rw [hq]
      rw [e0]
      exact stripPc_own j ks l h
    | some q =>
      have e0 : stripPc (l, h) k = (l.set k { q with state := "made", above := none }, h + q.cost) := by unfold stripPc; dsimp only; rw [hq]
      rw [e0, stripPc_own j ks]
      exact map_set_same (f := fun p => ownP p j) hq rfl
theorem strip_cons {fs : Fl} {k : Nat} {p : Pc} (hp : fs.pcs[k]? = some p) : (fs.strip k p).cons = fs.cons := funext fun j => by
  unfold Fl.strip Fl.cons Fl.heldAll
  dsimp only
  rw [stripLot_left]
  have e0 : (((pcsOf p.holds).foldl stripPc (fs.pcs, ((lotsOf p.holds).foldl stripLot (fs.lots, 0)).2)).1.map fun p => ownP p j)[k]? = some (ownP p j) := by
    rw [stripPc_own, List.getElem?_map, hp]
    rfl
  rw [List.getElem?_map] at e0
  obtain ⟨pk, h1, h2⟩ := Option.map_eq_some_iff.mp e0
  rw [sum_set (fun p => ownP p j) h1, stripPc_own]
  have h3 : ownP pk j = ownP p j := h2
  rw [h3]
  cases hx : fs.lots[j]? with
  | none => rfl
  | some x =>
    show some (x.part, (x.left + ownP p j) + ((fs.pcs.map fun p => ownP p j).sum - ownP p j + 0)) = some (x.part, x.left + (fs.pcs.map fun p => ownP p j).sum)
    congr 2
    omega
theorem modify_own (j k : Nat) (f : Pc → Pc) (hf : ∀ p, ownP (f p) j = ownP p j) (l : List Pc) : ((l.modify k f).map fun p => ownP p j) = l.map fun p => ownP p j := by
  cases h : l[k]? with
  | none =>
    have hk : l.length ≤ k := List.getElem?_eq_none_iff.mp h
    refine List.ext_getElem? fun i => ?_
    rw [List.getElem?_map, List.getElem?_map, List.getElem?_modify]
    by_cases e : k = i
    · subst e
      rw [h]
      rfl
    · cases l[i]? with
      | none => rfl
      | some v =>
        show some (ownP (if k = i then f v else v) j) = _
        rw [if_neg e]
        rfl
  | some x =>
    rw [modify_at h]
    exact map_set_same (f := fun p => ownP p j) h (hf x)
theorem begin_cons (fs : Fl) (z : Str) (b : Bool) (hs : List Hold) : (fs.begin_ z b hs).cons = fs.cons := by
  have e1 : ({ fs with pcs := fs.pcs ++ [newPc z] } : Fl).cons = fs.cons := funext fun j => by
    unfold Fl.cons Fl.heldAll
    dsimp only
    rw [List.map_append, List.sum_append]
    have : ([newPc z].map fun p => ownP p j).sum = 0 := rfl
    rw [this, Int.add_zero]
  refine Eq.trans (b := (({ fs with pcs := fs.pcs ++ [newPc z] } : Fl).giveAll fs.pcs.length hs).cons) (cons_same rfl fun j => ?_) ((giveAll_cons fs.pcs.length hs _).trans e1)
  unfold Fl.begin_
  dsimp only
  split
  · exact modify_own j _ _ (by intro _; rfl) _
  · rfl
theorem put_cons {fs fs' : Fl} {k : Nat} {p p' : Pc} (hp : fs.pcs[k]? = some p) (hl : fs'.lots = fs.lots) (hc : fs'.pcs = fs.pcs.set k p') (e : p'.holds = p.holds) : fs'.cons = fs.cons :=
  cons_same hl fun j => by
    rw [hc]
    exact map_set_same (f := fun p => ownP p j) hp (by unfold ownP; rw [e])
theorem swap_cons {fs : Fl} {k o n : Nat} {p q r : Pc} (hp : fs.pcs[k]? = some p) (hq : fs.pcs[o]? = some q) (hr : fs.pcs[n]? = some r) : (fs.swap k o n p q r).cons = fs.cons := by
  refine cons_same rfl fun j => ?_
  unfold Fl.swap
  dsimp only
  rw [List.map_set, List.map_set, List.map_set]
  have e1 : ownP { p with holds := replPc o n p.holds, cost := p.cost + (r.cost - q.cost), state := "made" } j = ownP p j := by unfold ownP; dsimp only; rw [lotsOf_repl]
  rw [e1, set_same (l := fs.pcs.map fun p => ownP p j) (k := k) (by rw [List.getElem?_map, hp]; rfl)]
  rw [set_same (l := fs.pcs.map fun p => ownP p j) (k := o) (v := ownP { q with state := "bad", above := none } j) (by rw [List.getElem?_map, hq]; rfl)]
  exact set_same (by rw [List.getElem?_map, hr]; rfl)
theorem LotC.new (rs : List PRow) (rates : List Int) : LotC (Fl.new rs rates) := fun j => rfl
theorem LotC.mDone {fs : Fl} (I : FlI fs) (C : LotC fs) (d : Deed) : LotC (fs.mDone d).2 := by
  by_cases h : d.isPc = true
  · rw [mDone_pc h]
    unfold Fl.onPc
    cases e : fs.pcAt d.num with
    | none => exact C
    | some p =>
      dsimp only
      have hp := (pcAt_some e).2
      split
      · cases d with
        | buy z m pr => exact C
        | begin_ z => exact C
        | work k => exact C.same (put_cons hp rfl rfl (by exact rfl)) (buys_no rfl)
        | test k g => exact C.same (put_cons hp rfl rfl (by exact rfl)) (buys_no rfl)
        | rework k a =>
          show LotC (if _ then _ else _ : Ans × Fl).2
          split
          · exact C.same (put_cons hp rfl rfl (by exact rfl)) (buys_no rfl)
          · exact C
        | swap k o n =>
          show LotC (fs.mSwap _ p o n).2
          unfold Fl.mSwap
          split
          · cases er : fs.pcAt n with
            | none => exact C
            | some r =>
              dsimp only
              split
              · cases eq : fs.pcs[o.toNat]? with
                | none => exact C
                | some q =>
                  dsimp only
                  split
                  · exact C.same (swap_cons hp eq (pcAt_some er).2) (buys_no rfl)
                  · exact C
              · exact C
          · exact C
        | scrap k => exact C.same (put_cons hp rfl rfl (by exact rfl)) (buys_no rfl)
        | strip k => exact C.same (strip_cons hp) (buys_no rfl)
        | sell k c =>
          show LotC (if _ then _ else _ : Ans × Fl).2
          split
          · exact C.same (put_cons hp rfl rfl (by exact rfl)) (buys_no rfl)
          · exact C
        | back k => exact C.same (put_cons hp rfl rfl (by exact rfl)) (buys_no rfl)
      · exact C
  · cases d with
    | buy z m pr =>
      show LotC (fs.mBuy z m pr).2
      unfold Fl.mBuy
      split
      · split
        · have hl := C.len
          intro j
          unfold Fl.buy
          show (fs.lots ++ [⟨z, m, pr⟩])[j]?.map _ = ((buysOf (fs.book ++ [.buy z m pr]))[j]?).map _
          rw [buys_snoc]
          show _ = ((buysOf fs.book ++ [(z, m, pr)])[j]?).map _
          by_cases h1 : j < fs.lots.length
          · rw [List.getElem?_append_left h1, List.getElem?_append_left (by omega)]
            exact C j
          · by_cases h2 : j = fs.lots.length
            · subst h2
              rw [List.getElem?_append_right (Nat.le_refl _), ← hl, List.getElem?_append_right (Nat.le_refl _)]
              rw [Nat.sub_self]
              show some (z, m + fs.heldAll (buysOf fs.book).length) = some (z, m)
              have : fs.heldAll (buysOf fs.book).length = 0 := by
                unfold Fl.heldAll
                refine sum_zero fun p hp => ?_
                obtain ⟨i, hi⟩ := List.mem_iff_getElem?.mp hp
                have := I.ownL_out i (j := (buysOf fs.book).length) (by omega)
                rw [ownL_at hi] at this
                exact this
              rw [this, Int.add_zero]
            · rw [List.getElem?_eq_none (by rw [List.length_append]; simp only [List.length_singleton]; omega), List.getElem?_eq_none (by rw [List.length_append]; simp only [List.length_singleton]; omega)]
              rfl
        · exact C
      · exact C
    | begin_ z =>
      show LotC (fs.mBegin z).2
      unfold Fl.mBegin
      cases PM.rowOf fs.rs z with
      | none => exact C
      | some r =>
        dsimp only
        split
        · exact C
        · cases fs.lacking r.needs with
          | some y => exact C
          | none =>
            refine C.same (begin_cons _ _ _ _) ?_
            unfold Fl.begin_
            dsimp only
            rw [(giveAll_frame _ _ _).2.2.1]
            exact buys_no rfl
    | _ => exact absurd rfl h
/-! those that are in none -/
def Fl.tops (fs : Fl) : List Nat := (List.range fs.pcs.length).filter fun k => (fs.up k).isNone
theorem Bel.no {fs : Fl} {x k : Nat} (h : fs.Bel x k) (hu : fs.up x = none) : False := by
  cases h with
  | one h => rw [hu] at h; cases h
  | step h _ => rw [hu] at h; cases h
end PM

namespace WK
open PySem PySem.Spec PyProof.Rows L2 PM
abbrev intsN (l : List Nat) : List V := l.map fun (i : Nat) => V.int (i : Int)
abbrev encIs (l : List Nat) : List PyData := l.map fun (i : Nat) => PyData.int (i : Int)
abbrev encLT (l : List (Nat × Int)) : List PyData := l.map fun e => PyData.tuple [.int (e.1 : Int), .int e.2]
section
variable {P : Program} {w : World} {K : PySem.W.Frag} {H B : Hp} {Q : VK} {F : Ent} {L : Led} {a b : Addr}
end
section
variable {X : Cx}
def rCatQ (K : PySem.W.Frag) : R2 := fun x y H Q => ∃ (a b : Addr) (xs zs : List V), x = .ref a ∧ y = .ref b ∧ SqL K H a xs ∧ SqL K H b zs ∧ xs.length + zs.length ≤ sizeLine ∧ ∀ p, H p = none → Q (.ref p) (upd H p (.lst (xs ++ zs)))
theorem op_catQ : OpR X (binaryOp .Add) (rCatQ X.K) := by
  intro pins s σ H x y v u Q I rx ry ⟨a, b, xs, zs, ex, ey, h1, h2, hz, q⟩
  subst ex
  subst ey
  cases rx
  cases ry
  obtain ⟨it1, r1, p1, _⟩ := I.list h1
  obtain ⟨it2, r2, p2, _⟩ := I.list h2
  have l1 := r1.length
  have l2 := r2.length
  obtain ⟨⟨k1, dd1, da1, sl1⟩, g1, c1, n1, e1⟩ := id p1.isList
  obtain ⟨⟨k2, dd2, da2, sl2⟩, g2, c2, n2, e2⟩ := id p2.isList
  simp only at c1 e1 c2 e2
  subst c1
  subst e1
  subst c2
  subst e2
  refine PySem.concat_meets ⟨_, g1, rfl⟩ ⟨_, g2, rfl⟩ PySem.noFill_list_add PySem.seq_list_add PySem.F.slot_list_add PySem.F.entry_list_add (PySem.F.args_list_add_2 _ _) (PyProof.Rows.list_addW a b it1.toArray it2.toArray n1 n2 dd1 dd2 sl1 sl2 (by simp only [List.size_toArray]; omega)) ⟨g1, g2, ?_⟩
  have ea : it1.toArray ++ it2.toArray = (it1 ++ it2).toArray := by simp
  rw [ea]
  exact ⟨.ref _, _, I.lnew (t' := s.toks) (r1.append r2) (by rw [List.length_append]; omega), rfl, q _ I.fresh⟩
end
section
variable {P : Program} {w : World} {K : PySem.W.Frag} {H B : Hp} {Q : VK} {F : Ent} {L : Led} {a b : Addr}
/-- a list joined to another, wherever they stand -/
theorem v_catQ {xs zs : List V} (S : Ok F B L H) (h1 : SqL K H a xs) (h2 : SqL K H b zs) (hz : xs.length + zs.length ≤ sizeLine) (k : ∀ r H', Ok F B ((r, .lst (xs ++ zs)) :: L) H' → Q (.ref r) H') : OpU P w K (binaryOp .Add) (.ref a) (.ref b) H Q :=
  .ofK (r := rCatQ) (fun _ _ => op_catQ) ⟨a, b, xs, zs, rfl, rfl, h1, h2, hz, fun r hr => k r _ (S.newL hr)⟩
end
end WK
namespace PM
open PySem L2 WK
end PM

namespace PM
open PySem L2 WK
/-! what is called back -/
def Fl.hasLot (fs : Fl) (x j : Nat) : Bool := match fs.pcs[x]? with
  | some p => decide (j ∈ (lotsOf p.holds).map (·.1))
  | none => false
def Fl.dirB (fs : Fl) (js ps : List Nat) (x : Nat) : Bool := decide (x ∈ ps) || js.any (fs.hasLot x)
def Fl.recB (fs : Fl) (js ps : List Nat) (k : Nat) : Bool := fs.dirB js ps k || (List.range fs.pcs.length).any fun x => fs.dirB js ps x && decide (k ∈ fs.chain 13 x)
def Fl.recS (fs : Fl) (js ps : List Nat) : List Nat := (List.range fs.pcs.length).filter (fs.recB js ps)
def Fl.stateAt (fs : Fl) (k : Nat) : Str := ((fs.pcs[k]?).map (·.state)).getD ""
def Fl.clientAt (fs : Fl) (k : Nat) : PyData := match (fs.pcs[k]?).bind (·.client) with
  | none => .none
  | some c => .int c
abbrev encRec (fs : Fl) (k : Nat) : PyData := .tuple [.int (k : Int), .str (fs.stateAt (fs.topOf k)), .int (fs.topOf k : Int), fs.clientAt (fs.topOf k)]
def insN (ks : List Nat) (k : Nat) : List Nat := if k ∈ ks then ks else ks ++ [k]
theorem mem_insN {ks : List Nat} {k x : Nat} : x ∈ insN ks k ↔ x ∈ ks ∨ x = k := by
  unfold insN
  by_cases h : k ∈ ks
  · rw [if_pos h]
    exact ⟨.inl, fun h' => h'.elim id fun e => e ▸ h⟩
  · rw [if_neg h, List.mem_append, List.mem_singleton]
theorem insN_nd {ks : List Nat} {k : Nat} (nd : ks.Nodup) : (insN ks k).Nodup := by
  unfold insN
  by_cases h : k ∈ ks
  · rw [if_pos h]; exact nd
  · rw [if_neg h, List.nodup_append]
    refine ⟨nd, List.nodup_cons.mpr ⟨(fun z => nomatch z), List.nodup_nil⟩, fun a ha b hb e => ?_⟩
    obtain rfl := List.mem_singleton.mp hb
    exact h (e ▸ ha)
/-- some numbers, each once -/
structure Fnd (N : Nat) (ks : List Nat) (c : Nat → Prop) : Prop where
  nd : ks.Nodup
  is : ∀ x, x ∈ ks ↔ c x
  lt : ∀ x ∈ ks, x < N
theorem Fnd.ins {N : Nat} {ks : List Nat} {c : Nat → Prop} (h : Fnd N ks c) {k : Nat} (hk : k < N) : Fnd N (insN ks k) fun x => c x ∨ x = k :=
  ⟨insN_nd h.nd, fun x => by rw [mem_insN, h.is], fun x hx => (mem_insN.mp hx).elim (h.lt x) fun e => e ▸ hk⟩
end PM

namespace PM
open PySem L2 WK
/-! a book done again; whose states a deed changes -/
def Fl.runD (f0 : Fl) (ds : List Deed) : Fl := ds.foldl (fun f d => (f.mDone d).2) f0
def ToldD (f0 : Fl) (ds : List Deed) : Prop := ∀ (i : Nat) (d : Deed), ds[i]? = some d → ((f0.runD (ds.take i)).mDone d).1.isTold = true
theorem runD_snoc (f0 : Fl) (ds : List Deed) (d : Deed) : f0.runD (ds ++ [d]) = ((f0.runD ds).mDone d).2 := by
  unfold Fl.runD
  rw [List.foldl_append]
  rfl
theorem ToldD.snoc {f0 : Fl} {ds : List Deed} (h : ToldD f0 ds) {d : Deed} (hd : ((f0.runD ds).mDone d).1.isTold = true) : ToldD f0 (ds ++ [d]) := by
  intro i e he
  by_cases hi : i < ds.length
  · rw [List.getElem?_append_left hi] at he
    rw [List.take_append_of_le_length (by omega)]
    exact h i e he
  · have hl := (List.getElem?_eq_some_iff.mp he).1
    rw [List.length_append, List.length_singleton] at hl
    have : i = ds.length := by omega
    subst this
    rw [List.getElem?_append_right (Nat.le_refl _), Nat.sub_self] at he
    cases Option.some.inj he
    rw [List.take_left']
    · exact hd
    · rfl
theorem ToldD.upTo {f0 : Fl} {ds : List Deed} (h : ToldD f0 ds) (n : Nat) : ToldD f0 (ds.take n) := by
  intro i d hd
  have hi := (List.getElem?_eq_some_iff.mp hd).1
  rw [List.length_take] at hi
  rw [List.getElem?_take_of_lt (by omega)] at hd
  rw [List.take_take, Nat.min_eq_left (by omega)]
  exact h i d hd
theorem ToldD.book {f0 : Fl} (h0 : f0.book = []) : ∀ (n : Nat) {ds : List Deed}, ds.length = n → ToldD f0 ds → (f0.runD ds).book = ds
  | 0, ds, hn, _ => by
    obtain rfl := List.length_eq_zero_iff.mp hn
    exact h0
  | n + 1, ds, hn, h => by
    obtain ⟨d, hd⟩ : ∃ d, ds[n]? = some d := ⟨_, List.getElem?_eq_getElem (by omega)⟩
    have e : ds = ds.take n ++ [d] := by
      have := List.take_add_one (l := ds) (i := n)
      rw [List.take_of_length_le (by omega), hd] at this
      exact this
    have ih := ToldD.book h0 n (ds := ds.take n) (by rw [List.length_take]; omega) (h.upTo n)
    have ht := h n d hd
    rw [e, runD_snoc, (mDone_note _ d).1 ht, ih]
theorem FlOk.runD {f0 : Fl} (h : FlOk f0) : ∀ ds : List Deed, FlOk (f0.runD ds) := by
  intro ds
  induction ds generalizing f0 with
  | nil => exact h
  | cons d ds ih => exact ih (h.mDone d)
/-! states -/
def Fl.stS (fs : Fl) (k : Nat) : Option Str := (fs.pcs[k]?).map (·.state)
def Deed.namesD (d : Deed) (fs : Fl) (k : Nat) : Prop := match d with
  | .buy _ _ _ => False
  | .begin_ _ => False
  | .work a => (k : Int) = a
  | .test a _ => (k : Int) = a
  | .rework a b => (k : Int) = a ∨ (k : Int) = b
  | .swap a b c => (k : Int) = a ∨ (k : Int) = b ∨ (k : Int) = c
  | .scrap a => (k : Int) = a
  | .strip a => (k : Int) = a ∨ (0 ≤ a ∧ k ∈ fs.kinS a.toNat)
  | .sell a b => (k : Int) = a ∨ (k : Int) = b
  | .back a => (k : Int) = a
theorem begin_len (fs : Fl) (z : Str) (b : Bool) (hs : List Hold) : (fs.begin_ z b hs).pcs.length = fs.pcs.length + 1 := by
  have h1 : (({ fs with pcs := fs.pcs ++ [newPc z] } : Fl).giveAll fs.pcs.length hs).pcs.length = fs.pcs.length + 1 := by
    rw [(giveAll_len _ _ _).1]
    show (fs.pcs ++ [newPc z]).length = _
    rw [List.length_append]
    rfl
  show (if b = true then (({ fs with pcs := fs.pcs ++ [newPc z] } : Fl).giveAll fs.pcs.length hs).pcs.modify fs.pcs.length _ else (({ fs with pcs := fs.pcs ++ [newPc z] } : Fl).giveAll fs.pcs.length hs).pcs).length = _
  split
  · rw [List.length_modify, h1]
  · exact h1
end PM

namespace PM
open PySem L2 WK
/-! what a row of a book names -/
def Deed.ints : Deed → List Int
  | .buy _ m p => [m, p]
  | .begin_ _ => []
  | .work a => [a]
  | .test a _ => [a]
  | .rework a b => [a, b]
  | .swap a b c => [a, b, c]
  | .scrap a => [a]
  | .strip a => [a]
  | .sell a b => [a, b]
  | .back a => [a]
def deedTail (d : Deed) : List PyData := match encDeed d with
  | .tuple (_ :: t) => t
  | _ => []
def isBelow (n : Nat) : PyData → Bool
  | .int i => decide (i < (n : Int))
  | _ => false
/-- what is named below n, as numbers -/
def Deed.nats (d : Deed) (n : Nat) : List Nat := if d.word ∈ (["buy", "begin"] : List Str) then [] else (d.ints.filter fun i => decide (i < (n : Int))).map Int.toNat
def Deed.strips (d : Deed) (n : Nat) : List Nat := (d.nats n).filter fun _ => decide (d.word = ("strip" : Str))
def Deed.namedL (d : Deed) (fs : Fl) (n : Nat) : List Nat := d.nats n ++ (d.strips n).flatMap fs.kinS
/-- the words of a book's rows are small -/
theorem deed_small {rs : List PRow} (G : GoodBook rs) {fs : Fl} (hrs : fs.rs = rs) {d : Deed} (ht : (fs.mDone d).1.isTold = true) : Shp 2 (encDeed d) := by
  have nm : ∀ {z : Str} {r : PRow}, PM.rowOf rs z = some r → z.cps.all (· < 0x110000) = true := fun {z r} h => by
    obtain ⟨h1, h2⟩ := rowOf_mem h
    obtain ⟨i, hi⟩ := List.getElem?_of_mem h1
    rw [← h2]
    exact name_shp (G.row i r hi).nm
  have hbuy : ∀ {z : Str}, (∃ r, PM.rowOf rs z = some r) → z.cps.all (· < 0x110000) = true := fun ⟨r, h⟩ => nm h
  have word : ∀ w ∈ (["buy", "begin", "work", "test", "rework", "swap", "scrap", "strip", "sell", "back"] : List Str), w.cps.all (· < 0x110000) = true := by decide +kernel
  have two : ∀ {a b : PyData}, Shp 1 a → Shp 1 b → Shp 2 (.tuple [a, b]) := fun h1 h2 => Shp.tup fun d hd => by
    rcases List.mem_cons.mp hd with rfl | hd
    · exact h1
    · rw [List.mem_singleton.mp hd]; exact h2
  have three : ∀ {a b c : PyData}, Shp 1 a → Shp 1 b → Shp 1 c → Shp 2 (.tuple [a, b, c]) := fun h1 h2 h3 => Shp.tup fun d hd => by
    rcases List.mem_cons.mp hd with rfl | hd
    · exact h1
    rcases List.mem_cons.mp hd with rfl | hd
    · exact h2
    · rw [List.mem_singleton.mp hd]; exact h3
  have four : ∀ {a b c e : PyData}, Shp 1 a → Shp 1 b → Shp 1 c → Shp 1 e → Shp 2 (.tuple [a, b, c, e]) := fun h1 h2 h3 h4 => Shp.tup fun d hd => by
    rcases List.mem_cons.mp hd with rfl | hd
    · exact h1
    rcases List.mem_cons.mp hd with rfl | hd
    · exact h2
    rcases List.mem_cons.mp hd with rfl | hd
    · exact h3
    · rw [List.mem_singleton.mp hd]; exact h4
  cases d with
  | buy z m pr =>
    change (fs.mBuy z m pr).1.isTold = true at ht
    unfold Fl.mBuy at ht
    split at ht
    · rename_i hb
      refine four (Shp.str (word _ (by decide))) (Shp.str (hbuy ?_)) Shp.int Shp.int
      rw [hrs] at hb
      unfold isBought at hb
      cases e : PM.rowOf rs z with
      | none => rw [e] at hb; cases hb
      | some r => exact ⟨r, rfl⟩
    · cases ht
  | begin_ z =>
    change (fs.mBegin z).1.isTold = true at ht
    unfold Fl.mBegin at ht
    rw [hrs] at ht
    cases e : PM.rowOf rs z with
    | none => rw [e] at ht; cases ht
    | some r => exact two (Shp.str (word _ (by decide))) (Shp.str (nm e))
  | work a => exact two (Shp.str (word _ (by decide))) Shp.int
  | test a g => exact three (Shp.str (word _ (by decide))) Shp.int ⟨rfl, Nat.zero_le _⟩
  | rework a b => exact three (Shp.str (word _ (by decide))) Shp.int Shp.int
  | swap a b c => exact four (Shp.str (word _ (by decide))) Shp.int Shp.int Shp.int
  | scrap a => exact two (Shp.str (word _ (by decide))) Shp.int
  | strip a => exact two (Shp.str (word _ (by decide))) Shp.int
  | sell a b => exact three (Shp.str (word _ (by decide))) Shp.int Shp.int
  | back a => exact two (Shp.str (word _ (by decide))) Shp.int
end PM

/-! a set of ints by a comprehension -/
namespace WK
open PySem PySem.Spec PyProof.Rows L2
abbrev putS (S : Int → Bool) (c : Int) : Int → Bool := fun j => S j || decide (j = c)
abbrev putC (S : Int → Bool) (n : Nat) (c : Int) : Nat := if S c = true then n else n + 1
/-- what an element is to reach: the new set at D with one more -/
def PutTo (w : World) (D : Addr) (N : Hp → Prop) : VK := fun y H => ∃ (c : Int) (S : Int → Bool) (n : Nat), y = .int c ∧ H D = some (SetO w D S n) ∧ n + 1 < scanBound ∧ N (upd H D (SetO w D (putS S c) (putC S n c)))
def ScW (w : World) (g : TG) (tt : TT) (te : TE) (vs : List Nat) (σ : L2.St) (Q : VK) : It → Hp → Prop := fun J H1 => ∀ D, H1 D = none → ∃ W : Nat → Nat → Hp → Prop, (∃ m, W 0 m (upd H1 D (SetO w D (fun _ => false) 0))) ∧ ∀ i m H, W i m H →
  (J.stop i H ∧ Q (.ref D) H) ∨ (J.go i H ∧ ∃ Nx : Hp → Prop, (∀ H', Nx H' → ∃ m', m' < m ∧ W (i + 1) m' H') ∧ ∀ x H', J.yld i H x H' → g x (wipe σ vs) H' fun σ2 H2 => wipe σ2 vs = wipe σ vs ∧ tt σ2 H2 fun b H3 =>
    if b = true then te σ2 H3 (PutTo w D Nx) else Nx H3)
def tSci (w : World) (wi : TI) (g : TG) (tt : TT) (te : TE) (vs : List Nat) : TE := fun σ H Q => wi σ H (ScW w g tt te vs σ Q)
section
variable {X : Cx}
end
section
variable {α : Type} {J : It} {GB : Hp → Led → Prop} {as : List α} {R : Hp → V → α → Prop} {F : Ent} {B H1 : Hp} {L : Led} {σ : L2.St} {K : PySem.W.Frag} {P : Program} {w : World}
end
theorem r_sci {w : World} {wi : TI} {g : TG} {tt : TT} {te : TE} {vs : List Nat} {σ : L2.St} {H : Hp} {Q : VK} (k : wi σ H (ScW w g tt te vs σ Q)) : tSci w wi g tt te vs σ H Q := k
end WK

/-! a list's place taken out; a row's part; the last of a list -/
namespace WK
open PySem PySem.Spec PyProof.Rows L2
section
variable {P : Program} {w : World} {K : PySem.W.Frag} {H B : Hp} {Q : VK} {F : Ent} {L : Led} {p : Addr} {xs : List V}
end
end WK

namespace PM
open PySem L2 WK
/-! what a piece holds, thing by thing in its own turn -/
def Hold.sub (f : Nat → List Nat) : Hold → List Nat
  | .lot _ _ => []
  | .pc x => x :: f x
def Hold.totH (f : Nat → Int) (j : Nat) : Hold → Int
  | .lot i m => if i = j then m else 0
  | .pc x => f x
theorem LotIs.keys {N : Nat} {m : List (Nat × Int)} {f : Nat → Int} (h : LotIs N m f) {ys : List Int} (hp : ys.Perm ((m.map (·.1)).map fun (k : Nat) => (k : Int))) (hs : ys.Pairwise (· ≤ ·)) : ys = ((List.range N).filter fun j => decide (0 < f j)).map fun (k : Nat) => (k : Int) := by
  have hm : ∀ j, j ∈ m.map (·.1) ↔ 0 < f j := fun j => by
    rw [List.mem_map]
    constructor
    · rintro ⟨⟨i, v⟩, hi, rfl⟩
      exact ((h.get i v).mp hi).1
    · intro hj
      exact ⟨(j, f j), (h.get j (f j)).mpr ⟨hj, rfl⟩, rfl⟩
  rw [sorted_range (n := N) hp hs h.nd fun x hx => h.lt x ((hm x).mp hx)]
  congr 1
  refine List.filter_congr fun x _ => ?_
  exact decide_eq_decide.mpr (hm x)
/-! who holds it, by how much each holds -/
def Fl.szRow (fs : Fl) (u : Nat) : Int × Int := (((fs.kinP 12 u).length : Nat), (u : Nat))
end PM

namespace PM
open PySem L2 WK
def Fl.partIs (fs : Fl) (z : Str) (k : Nat) : Bool := (fs.lots[k]?).any fun x => decide (x.part = z)
def Fl.leftAt (fs : Fl) (k : Nat) : Int := ((fs.lots[k]?).map (·.left)).getD 0
end PM

namespace PM
open PySem L2 WK
/-! whose pieces are: who is told of a piece that is sold, of no other -/
def PcCl (p : Pc) : Prop := (p.state = "sold" ↔ p.client.isSome = true) ∧ ∀ c, p.client = some c → 0 ≤ c ∧ c ≤ 99
def CliOk (fs : Fl) : Prop := ∀ (i : Nat) (p : Pc), fs.pcs[i]? = some p → PcCl p
theorem cli_set {l : List Pc} (I : ∀ (i : Nat) (p : Pc), l[i]? = some p → PcCl p) {k : Nat} {p' : Pc} (h : PcCl p') : ∀ (i : Nat) (p : Pc), (l.set k p')[i]? = some p → PcCl p := by
  intro i p hp
  by_cases hi : k = i
  · subst hi
    have hk := (List.getElem?_eq_some_iff.mp hp).1
    rw [List.length_set] at hk
    rw [List.getElem?_set_self hk] at hp
    cases hp
    exact h
  · rw [List.getElem?_set_ne hi] at hp
    exact I i p hp
theorem CliOk.putS {fs : Fl} (I : CliOk fs) {k : Nat} {p' : Pc} (d : Deed) (h : PcCl p') : CliOk (fs.put k p' d) := cli_set I h
/-! who is told of -/
def Fl.cli (fs : Fl) (k : Nat) : Int := ((fs.pcs[k]?).bind (·.client)).getD 0
abbrev Fl.isSold (fs : Fl) (k : Nat) : Bool := decide (fs.stateAt (fs.topOf k) = "sold")
end PM

namespace PM
open PySem L2 WK
/-! who is called back is who holds it -/
/-- what of all that it holds, and of itself, is doubted -/
def Fl.doubt (fs : Fl) (js ps : List Nat) (k : Nat) : List Nat := ((fs.kinT k).filter fun e => decide (e.1 ∈ js)).map (·.1) ++ (fs.kinS k ++ [k]).filter fun y => decide (y ∈ ps)
end PM

/-! known books, deeds on known floors (plain) -/
namespace PM
open PySem L2 WK
def goodRowB (names : List Str) (r : PRow) : Bool :=
  isNameM r.name && decide (r.name ∉ names) && decide (1 ≤ r.lot ∧ r.lot ≤ 99) && decide (0 ≤ r.lead ∧ r.lead ≤ 30) && decide ((r.needs.map (·.1)).Nodup) && r.needs.all (fun x => decide (x.1 ∈ names)) && r.needs.all (fun x => decide (1 ≤ x.2 ∧ x.2 ≤ 9)) && decide (r.steps.length ≤ 5) && r.steps.all (fun x => decide ((0 ≤ x.1 ∧ x.1 < 6) ∧ 1 ≤ x.2 ∧ x.2 ≤ 99))
def goodB (rs : List PRow) : Bool :=
  decide (rs.length ≤ 12) && (List.range rs.length).all (fun i => match rs[i]? with | some r => goodRowB ((rs.take i).map (·.name)) r | none => true) && (ledOf rs).all (fun p => decide ((p.2.map (·.2)).sum ≤ 200))
theorem goodB_book {rs : List PRow} (h : goodB rs = true) : GoodBook rs := by
  unfold goodB at h
  rw [Bool.and_eq_true, Bool.and_eq_true, decide_eq_true_iff, List.all_eq_true, List.all_eq_true] at h
  obtain ⟨⟨h1, h2⟩, h3⟩ := h
  refine ⟨h1, fun i r hr => ?_, fun p hp => of_decide_eq_true (h3 p hp)⟩
  have hi := (List.getElem?_eq_some_iff.mp hr).1
  have h4 := h2 i (List.mem_range.mpr hi)
  rw [hr] at h4
  replace h4 : goodRowB ((rs.take i).map (·.name)) r = true := h4
  unfold goodRowB at h4
  simp only [Bool.and_eq_true, decide_eq_true_iff, List.all_eq_true] at h4
  obtain ⟨⟨⟨⟨⟨⟨⟨⟨a1, a2⟩, a3⟩, a4⟩, a5⟩, a6⟩, a7⟩, a8⟩, a9⟩ := h4
  exact ⟨a1, a2, a3, a4, a5, a6, a7, a8, a9⟩
theorem pcAt_nat (fs : Fl) (k : Nat) : fs.pcAt (k : Int) = fs.pcs[k]? := by
  unfold Fl.pcAt
  rw [if_pos (by omega), Int.toNat_natCast]
section
variable {fs : Fl} {k : Nat} {p : Pc}
theorem onPc_at {ss : List Str} {f : Pc → Ans × Fl} (h : fs.pcs[k]? = some p) (hs : p.state ∈ ss) : fs.onPc (k : Int) ss f = f p := by
  unfold Fl.onPc
  rw [pcAt_nat, h]
  exact if_pos hs
theorem md_work (h : fs.pcs[k]? = some p) (hs : p.state = "making") : fs.mDone (.work k) = (.told (.int (fs.stepAt p).2), fs.work k p ((fs.stepAt p).2 * fs.rateOf (fs.stepAt p).1) (fs.nSteps p)) :=
  onPc_at (ss := ["making"]) h (by rw [hs]; exact .head _)
theorem md_test {g : Bool} (h : fs.pcs[k]? = some p) (hs : p.state = "made" ∨ p.state = "stock") : fs.mDone (.test k g) = (.told .none, fs.put k { p with state := if g = true then "stock" else "bad" } (.test k g)) :=
  onPc_at (ss := ["made", "stock"]) h (by rcases hs with hs | hs <;> rw [hs] <;> decide)
theorem md_begin {z : Str} {r : PRow} (hr : PM.rowOf fs.rs z = some r) (hb : (r.needs.isEmpty && r.steps.isEmpty) = false) (hl : fs.lacking r.needs = none) : fs.mDone (.begin_ z) = (.told (.int fs.pcs.length), fs.begin_ z r.steps.isEmpty (fs.takes r.needs).flatten) := by
  show fs.mBegin z = _
  unfold Fl.mBegin
  rw [hr]
  dsimp only
  rw [hb, if_neg (by decide), hl]
theorem md_buy {z : Str} {m pr : Int} (hb : isBought fs.rs z = true) (hm : 1 ≤ m ∧ m ≤ 999) (hp : 0 ≤ pr ∧ pr ≤ 9999) : fs.mDone (.buy z m pr) = (.told (.int fs.lots.length), fs.buy z m pr) := by
  show fs.mBuy z m pr = _
  unfold Fl.mBuy
  rw [if_pos hb, if_pos ⟨hm, hp⟩]
end
/-! ### k16 -/
abbrev rs16 : List PRow := [⟨"a", [], [(0, 1)], 1, 0⟩, ⟨"b", [("a", 1)], [], 1, 0⟩]
abbrev pc16 (x : Str × Option Int) : Pc := ⟨"a", x.1, 1, 5, [], none, x.2, 5⟩
def Ok16 (x : Str × Option Int) : Prop := (x.1 = "stock" ∨ x.1 = "sold" ∨ x.1 = "bad" ∨ x.1 = "scrap" ∨ x.1 = "made") ∧ PcCl (pc16 x)
structure K16 (fs : Fl) (l : List (Str × Option Int)) : Prop where
  rs : fs.rs = rs16
  rates : fs.rates = List.replicate 6 5
  lots : fs.lots = []
  pcs : fs.pcs = l.map pc16
  spent : fs.spent = 5 * (l.length : Int)
  lost : fs.lost = 0
  ok : ∀ x ∈ l, Ok16 x
theorem K16.knew : K16 (Fl.new rs16 (List.replicate 6 5)) [] := ⟨rfl, rfl, rfl, rfl, rfl, rfl, fun _ h => nomatch h⟩
section
variable {fs : Fl} {l : List (Str × Option Int)}
/-- a piece made -/
structure Mk16 (fs : Fl) (l : List (Str × Option Int)) : Prop where
  t1 : (fs.mDone (.begin_ "a")).1 = .told (.int l.length)
  t2 : ((fs.mDone (.begin_ "a")).2.mDone (.work l.length)).1 = .told (.int 1)
  t3 : (((fs.mDone (.begin_ "a")).2.mDone (.work l.length)).2.mDone (.test l.length true)).1 = .told .none
  k : K16 (((fs.mDone (.begin_ "a")).2.mDone (.work l.length)).2.mDone (.test l.length true)).2 (l ++ [(("stock" : Str), none)])
/-- how many in a state -/
def cnt16 (l : List (Str × Option Int)) (z : Str) : Int := ((l.filter fun x => decide (x.1 = z)).length : Nat)
/-- what lies where, lots of none, nothing lost -/
def pl6 (w s so sc : Int) : List (Str × Int) := [("lots", 0), ("work", w), ("stock", s), ("sold", so), ("scrap", sc), ("lost", 0)]
end
end PM
namespace PM
open PySem L2 WK
def optD : Option Int → PyData
  | none => .none
  | some c => .int c
end PM

/-! what is at hand, deed by deed (plain) -/
namespace PM
open PySem L2 WK
def lot1 (z : Str) (x : Lt) : Int := if x.part = z then x.left else 0
def stk1 (z : Str) (p : Pc) : Int := if p.part = z ∧ p.state = "stock" then 1 else 0
def lotSum (l : List Lt) (z : Str) : Int := (l.map (lot1 z)).sum
def stkN (ps : List Pc) (z : Str) : Int := (ps.map (stk1 z)).sum
theorem lotSum_filter (l : List Lt) (z : Str) : ((l.filter fun x => decide (x.part = z)).map (·.left)).sum = lotSum l z := by
  unfold lotSum
  induction l with
  | nil => rfl
  | cons a l ih =>
    rw [List.filter_cons, List.map_cons, List.sum_cons, ← ih]
    unfold lot1
    by_cases h : a.part = z
    · rw [if_pos (decide_eq_true h), if_pos h, List.map_cons, List.sum_cons]
    · rw [if_neg (by rw [decide_eq_false h]; decide), if_neg h, Int.zero_add]
theorem stkN_stock (ps : List Pc) (z : Str) : ((stockOf ps z).length : Int) = stkN ps z := by
  unfold stockOf stkN
  rw [List.length_map]
  have gen : ∀ (l : List Pc) (n : Nat), (((l.zipIdx n).filter fun x => decide (x.1.part = z) && decide (x.1.state = sStock)).length : Int) = (l.map (stk1 z)).sum := by
    intro l
    induction l with
    | nil => intro n; rfl
    | cons a l ih =>
      intro n
      rw [List.zipIdx_cons, List.filter_cons, List.map_cons, List.sum_cons, ← ih (n + 1)]
      unfold stk1
      by_cases h : a.part = z ∧ a.state = "stock"
      · rw [if_pos h, if_pos (by rw [decide_eq_true h.1, Bool.true_and]; exact decide_eq_true h.2), List.length_cons]
        omega
      · rw [if_neg h, if_neg (fun q => h (by rw [Bool.and_eq_true, decide_eq_true_iff, decide_eq_true_iff] at q; exact q))]
        omega
  exact gen ps 0
def Fl.hand (fs : Fl) (z : Str) : Int := if isBought fs.rs z = true then lotSum fs.lots z else stkN fs.pcs z
theorem lot1_pos {z : Str} {x : Lt} (h : 0 ≤ x.left) : 0 ≤ lot1 z x := by
  unfold lot1
  split
  · exact h
  · exact Int.le_refl _
theorem sum_nonneg' {l : List Int} (h : ∀ x ∈ l, 0 ≤ x) : 0 ≤ l.sum := by
  induction l with
  | nil => exact Int.le_refl _
  | cons a l ih =>
    rw [List.sum_cons]
    have h1 := h a (.head _)
    have h2 := ih fun x hx => h x (.tail _ hx)
    omega
/-- what is left to take, lot by lot -/
theorem takeFold_left (z : Str) : ∀ (xs : List (Lt × Nat)) (acc : List (Nat × Int) × Int), (∀ y ∈ xs, 0 ≤ y.1.left) → 0 ≤ acc.2 → (xs.foldl (takeStep z) acc).2 = if acc.2 ≤ (xs.map fun y => lot1 z y.1).sum then 0 else acc.2 - (xs.map fun y => lot1 z y.1).sum
  | [], acc, _, h0 => by
    show acc.2 = if acc.2 ≤ 0 then 0 else acc.2 - 0
    split <;> omega
  | x :: xs, acc, hp, h0 => by
    have hx := hp x (.head _)
    have hs : 0 ≤ (xs.map fun y => lot1 z y.1).sum := sum_nonneg' fun y hy => by
      obtain ⟨w, hw, rfl⟩ := List.mem_map.mp hy
      exact lot1_pos (hp w (.tail _ hw))
    rw [List.foldl_cons, List.map_cons, List.sum_cons]
    generalize hS : (xs.map fun y => lot1 z y.1).sum = S at hs
    by_cases hc : x.1.part = z ∧ 0 < x.1.left ∧ 0 < acc.2
    · have e1 : (takeStep z acc x).2 = acc.2 - (if acc.2 < x.1.left then acc.2 else x.1.left) := by unfold takeStep; rw [if_pos hc]
      have e2 : lot1 z x.1 = x.1.left := if_pos hc.1
      have h1 : 0 ≤ (takeStep z acc x).2 := by rw [e1]; split <;> omega
      rw [takeFold_left z xs _ (fun y hy => hp y (.tail _ hy)) h1, hS, e1, e2]
      split <;> split <;> split <;> omega
    · have e1 : takeStep z acc x = acc := by unfold takeStep; rw [if_neg hc]
      rw [takeFold_left z xs _ (fun y hy => hp y (.tail _ hy)) (by rw [e1]; exact h0), hS, e1]
      have e2 : lot1 z x.1 = 0 ∨ acc.2 = 0 := by
        unfold lot1
        by_cases h : x.1.part = z
        · rw [if_pos h]
          by_cases h2 : acc.2 = 0
          · exact .inr h2
          · exact .inl (by
              by_cases h3 : 0 < x.1.left
              · exact absurd ⟨h, h3, by omega⟩ hc
              · omega)
        · exact .inl (if_neg h)
      rcases e2 with e2 | e2
      · rw [e2, Int.zero_add]
      · have := lot1_pos (z := z) hx
        rw [if_pos (by omega), if_pos (by omega)]
theorem takeLots_left {lots : List Lt} (hp : ∀ x ∈ lots, 0 ≤ x.left) (z : Str) {m : Int} (hm : 0 ≤ m) : (takeLots lots z m).2 = if m ≤ lotSum lots z then 0 else m - lotSum lots z := by
  unfold takeLots
  have e : (lots.zipIdx.map fun y => lot1 z y.1).sum = lotSum lots z := by
    unfold lotSum
    have : lots.map (lot1 z) = lots.zipIdx.map fun y => lot1 z y.1 := by
      conv => lhs; rw [← List.zipIdx_map_fst 0 lots]
      rw [List.map_map]
      rfl
    rw [this]
  rw [takeFold_left z lots.zipIdx ([], m) (fun y hy => hp y.1 (List.mem_of_getElem? (zip_at hy))) hm, e]
theorem FlI.left (I : FlI fs) : ∀ x ∈ fs.lots, 0 ≤ x.left := fun x hx => by
  obtain ⟨j, hj⟩ := List.mem_iff_getElem?.mp hx
  exact (I.lot j x hj).1
/-- what can be taken is what is at hand -/
theorem taken_some {fs : Fl} (I : FlI fs) (z : Str) {m : Int} (hm : 0 ≤ m) : (fs.taken z m).isSome = decide (m ≤ fs.hand z) := by
  unfold Fl.taken Fl.hand
  cases h : isBought fs.rs z with
  | true =>
    rw [if_pos rfl, if_pos rfl, takeLots_left I.left z hm]
    by_cases h1 : m ≤ lotSum fs.lots z
    · rw [if_pos h1, if_pos rfl, decide_eq_true h1]; rfl
    · rw [if_neg h1, if_neg (by omega), decide_eq_false h1]; rfl
  | false =>
    rw [if_neg Bool.false_ne_true, if_neg Bool.false_ne_true]
    have := stkN_stock fs.pcs z
    by_cases h1 : m ≤ stkN fs.pcs z
    · rw [if_pos (by omega), decide_eq_true h1]; rfl
    · rw [if_neg (by omega), decide_eq_false h1]; rfl
/-- the first of which there is too little -/
def Fl.short (fs : Fl) (needs : List (Str × Int)) : List Str := (needs.filter fun x => decide (fs.hand x.1 < x.2)).map (·.1)
theorem lacking_short {fs : Fl} (I : FlI fs) {needs : List (Str × Int)} (hm : ∀ x ∈ needs, 0 ≤ x.2) : fs.lacking needs = (fs.short needs).head? := by
  unfold Fl.lacking Fl.short
  induction needs with
  | nil => rfl
  | cons a l ih =>
    have ih := ih fun x hx => hm x (.tail _ hx)
    rw [List.find?_cons, List.filter_cons]
    have e := taken_some I a.1 (hm a (.head _))
    by_cases h : fs.hand a.1 < a.2
    · rw [if_pos (decide_eq_true h)]
      have e2 : (fs.taken a.1 a.2).isNone = true := by
        rw [decide_eq_false (by omega)] at e
        cases hh : fs.taken a.1 a.2 with
        | none => rfl
        | some _ => rw [hh] at e; cases e
      rw [e2]
      rfl
    · rw [if_neg (by rw [decide_eq_false h]; decide)]
      have e2 : (fs.taken a.1 a.2).isNone = false := by
        rw [decide_eq_true (by omega)] at e
        cases hh : fs.taken a.1 a.2 with
        | none => rw [hh] at e; cases e
        | some _ => rfl
      rw [e2]
      exact ih
/-! what is at hand behind a deed -/
theorem lotSum_set {l : List Lt} {j : Nat} {x y : Lt} {z : Str} (h : l[j]? = some x) : lotSum (l.set j y) z = lotSum l z - lot1 z x + lot1 z y := sum_set (lot1 z) h
theorem stkN_set {l : List Pc} {j : Nat} {x y : Pc} {z : Str} (h : l[j]? = some x) : stkN (l.set j y) z = stkN l z - stk1 z x + stk1 z y := sum_set (stk1 z) h
theorem lotSum_snoc (l : List Lt) (x : Lt) (z : Str) : lotSum (l ++ [x]) z = lotSum l z + lot1 z x := by
  unfold lotSum
  rw [List.map_append, List.sum_append]
  show _ + (lot1 z x + 0) = _
  rw [Int.add_zero]
theorem stkN_snoc (l : List Pc) (x : Pc) (z : Str) : stkN (l ++ [x]) z = stkN l z + stk1 z x := by
  unfold stkN
  rw [List.map_append, List.sum_append]
  show _ + (stk1 z x + 0) = _
  rw [Int.add_zero]
theorem hand_buy {fs : Fl} {y : Str} (hb : isBought fs.rs y = true) (m pr : Int) (z : Str) : (fs.buy y m pr).hand z = fs.hand z + if y = z then m else 0 := by
  unfold Fl.hand
  show (if isBought fs.rs z = true then lotSum (fs.lots ++ [⟨y, m, pr⟩]) z else stkN fs.pcs z) = _
  by_cases h : isBought fs.rs z = true
  · rw [if_pos h, if_pos h, lotSum_snoc]
    rfl
  · rw [if_neg h, if_neg h, if_neg (fun (e : y = z) => h (e ▸ hb)), Int.add_zero]
/-- a piece changed -/
theorem hand_set {fs fs' : Fl} {k : Nat} {p p' : Pc} (hp : fs.pcs[k]? = some p) (hr : fs'.rs = fs.rs) (hl : fs'.lots = fs.lots) (hs : fs'.pcs = fs.pcs.set k p') (e : p'.part = p.part) (hnb : isBought fs.rs p.part = false) (z : Str) :
    fs'.hand z = fs.hand z - stk1 z p + stk1 z p' := by
  unfold Fl.hand
  rw [hr, hl, hs]
  by_cases h : isBought fs.rs z = true
  · have hne : p.part ≠ z := fun q => by rw [q, h] at hnb; cases hnb
    have e1 : stk1 z p = 0 := if_neg fun q => hne q.1
    have e2 : stk1 z p' = 0 := if_neg fun q => hne (e ▸ q.1)
    rw [if_pos h, if_pos h, e1, e2]
    omega
  · rw [if_neg h, if_neg h, stkN_set hp]
theorem FlI.pnb {fs : Fl} (I : FlI fs) {k : Nat} {p : Pc} (hp : fs.pcs[k]? = some p) : isBought fs.rs p.part = false := by
  obtain ⟨r, h1, h2, _⟩ := (I.pc k p hp).row
  unfold isBought
  rw [h1]
  exact h2
theorem hand_put {fs : Fl} (I : FlI fs) {k : Nat} {p p' : Pc} (hp : fs.pcs[k]? = some p) (e : p'.part = p.part) (d : Deed) (z : Str) : (fs.put k p' d).hand z = fs.hand z - stk1 z p + stk1 z p' := hand_set (fs' := fs.put k p' d) hp rfl rfl rfl e (I.pnb hp) z
/-! what a piece takes -/
def needOf (needs : List (Str × Int)) (z : Str) : Int := (needs.map fun x => if x.1 = z then x.2 else 0).sum
theorem within_ns : ("within" : Str) ≠ "stock" := by decide
theorem made_ns : ("made" : Str) ≠ "stock" := by decide
def lotEff (fs : Fl) (z : Str) (hs : List Hold) : Int := ((lotsOf hs).map fun x => if (fs.lots[x.1]?).map (·.part) = some z then x.2 else 0).sum
def pcEff (fs : Fl) (z : Str) (hs : List Hold) : Int := ((pcsOf hs).map fun k => if (fs.pcs[k]?).map (·.part) = some z then (1 : Int) else 0).sum
theorem give_lotPart (n : Nat) (h : Hold) (fs : Fl) (i : Nat) : ((fs.give n h).lots[i]?).map (·.part) = (fs.lots[i]?).map (·.part) := by
  unfold Fl.give
  cases h with
  | pc k => dsimp only; split <;> rfl
  | lot j m =>
    dsimp only
    split
    · rename_i x p hx hp
      dsimp only
      by_cases e : j = i
      · subst e
        rw [List.getElem?_set_self (List.getElem?_eq_some_iff.mp hx).1, hx]
        rfl
      · rw [List.getElem?_set_ne e]
    · rfl
theorem give_pcPart (n : Nat) (h : Hold) (fs : Fl) (i : Nat) : ((fs.give n h).pcs[i]?).map (·.part) = (fs.pcs[i]?).map (·.part) := by
  have one : ∀ {l : List Pc} {k : Nat} {p p' : Pc}, l[k]? = some p → p'.part = p.part → ((l.set k p')[i]?).map (·.part) = (l[i]?).map (·.part) := fun {l k p p'} hp he => by
    by_cases e : k = i
    · subst e
      rw [List.getElem?_set_self (List.getElem?_eq_some_iff.mp hp).1, hp]
      exact congrArg some he
    · rw [List.getElem?_set_ne e]
  unfold Fl.give
  cases h with
  | pc k =>
    dsimp only
    split
    · rename_i q p hq hp
      dsimp only
      by_cases e : k = n
      · subst e
        rw [hp] at hq
        cases hq
        rw [List.set_set]
        exact one hp rfl
      · refine Eq.trans (one (p := p) ?_ rfl) (one hq rfl)
        rw [List.getElem?_set_ne e]
        exact hp
    · rfl
  | lot j m =>
    dsimp only
    split
    · rename_i x p hx hp
      exact one hp rfl
    · rfl
theorem lotEff_give (n : Nat) (h : Hold) (fs : Fl) (z : Str) (hs : List Hold) : lotEff (fs.give n h) z hs = lotEff fs z hs := by
  unfold lotEff
  congr 1
  exact List.map_congr_left fun x _ => by rw [give_lotPart]
theorem pcEff_give (n : Nat) (h : Hold) (fs : Fl) (z : Str) (hs : List Hold) : pcEff (fs.give n h) z hs = pcEff fs z hs := by
  unfold pcEff
  congr 1
  exact List.map_congr_left fun x _ => by rw [give_pcPart]
theorem giveAll_eff (n : Nat) (z : Str) : ∀ (hs : List Hold) (fs : Fl) (p : Pc), fs.pcs[n]? = some p → p.state ≠ "stock" → (∀ k ∈ pcsOf hs, ∃ q, fs.pcs[k]? = some q ∧ q.state = "stock") → (pcsOf hs).Nodup → (∀ x ∈ lotsOf hs, x.1 < fs.lots.length) →
    lotSum (fs.giveAll n hs).lots z = lotSum fs.lots z - lotEff fs z hs ∧ stkN (fs.giveAll n hs).pcs z = stkN fs.pcs z - pcEff fs z hs
  | [], fs, p, _, _, _, _, _ => ⟨(Int.sub_zero _).symm, (Int.sub_zero _).symm⟩
  | .lot j m :: hs, fs, p, hn, hs0, hpc, nd, hlot => by
    have e0 : fs.giveAll n (.lot j m :: hs) = (fs.give n (.lot j m)).giveAll n hs := rfl
    obtain ⟨x, hx⟩ : ∃ x, fs.lots[j]? = some x := ⟨_, List.getElem?_eq_getElem (hlot (j, m) (.head _))⟩
    have eg : fs.give n (.lot j m) = { fs with lots := fs.lots.set j { x with left := x.left - m }, pcs := fs.pcs.set n { p with holds := p.holds ++ [Hold.lot j m], cost := p.cost + m * x.price } } := by unfold Fl.give; dsimp only; rw [hx, hn]
    have ln := (List.getElem?_eq_some_iff.mp hn).1
    have hn1 : (fs.give n (.lot j m)).pcs[n]? = some { p with holds := p.holds ++ [Hold.lot j m], cost := p.cost + m * x.price } := by rw [eg]; exact List.getElem?_set_self ln
    obtain ⟨i1, i2⟩ := giveAll_eff n z hs (fs.give n (.lot j m)) _ hn1 hs0 (fun k hk => by
      obtain ⟨q, h1, h2⟩ := hpc k hk
      have hne : n ≠ k := fun e => by subst e; rw [hn] at h1; cases h1; exact hs0 h2
      exact ⟨q, by rw [eg]; show (fs.pcs.set n _)[k]? = _; rw [List.getElem?_set_ne hne]; exact h1, h2⟩) nd (fun y hy => by
      rw [eg]
      show y.1 < (fs.lots.set j _).length
      rw [List.length_set]
      exact hlot y (.tail _ hy))
    rw [e0, i1, i2, lotEff_give, pcEff_give, eg]
    dsimp only
    rw [lotSum_set hx, stkN_set hn]
    have e1 : lotEff fs z (.lot j m :: hs) = (if x.part = z then m else 0) + lotEff fs z hs := by
      show ((if (fs.lots[j]?).map (·.part) = some z then m else 0) + _ : Int) = _
      rw [hx]
      show ((if some x.part = some z then m else 0) + _ : Int) = _
      by_cases h : x.part = z
      · rw [if_pos h, if_pos (by rw [h])]; rfl
      · rw [if_neg h, if_neg (fun q => h (Option.some.inj q))]; rfl
    have e2 : pcEff fs z (.lot j m :: hs) = pcEff fs z hs := rfl
    have e3 : stk1 z { p with holds := p.holds ++ [Hold.lot j m], cost := p.cost + m * x.price } = stk1 z p := rfl
    have e4 : lot1 z { x with left := x.left - m } = lot1 z x - (if x.part = z then m else 0) := by
      unfold lot1
      dsimp only
      split <;> omega
    rw [e1, e2, e3, e4]
    exact ⟨by omega, by omega⟩
  | .pc k :: hs, fs, p, hn, hs0, hpc, nd, hlot => by
    have e0 : fs.giveAll n (.pc k :: hs) = (fs.give n (.pc k)).giveAll n hs := rfl
    obtain ⟨q, hk, hq⟩ := hpc k (show k ∈ k :: pcsOf hs from .head _)
    have hne : k ≠ n := fun e => by subst e; rw [hn] at hk; cases hk; exact hs0 hq
    obtain ⟨nd1, nd2⟩ := List.nodup_cons.mp (show (k :: pcsOf hs).Nodup from nd)
    have eg : fs.give n (.pc k) = { fs with pcs := (fs.pcs.set k { q with state := "within", above := some n }).set n { p with holds := p.holds ++ [Hold.pc k], cost := p.cost + q.cost } } := by unfold Fl.give; dsimp only; rw [hk, hn]
    have ln := (List.getElem?_eq_some_iff.mp hn).1
    have hnk : (fs.pcs.set k { q with state := "within", above := some n })[n]? = some p := by rw [List.getElem?_set_ne hne]; exact hn
    have hn1 : (fs.give n (.pc k)).pcs[n]? = some { p with holds := p.holds ++ [Hold.pc k], cost := p.cost + q.cost } := by rw [eg]; exact List.getElem?_set_self (by rw [List.length_set]; exact ln)
    obtain ⟨i1, i2⟩ := giveAll_eff n z hs (fs.give n (.pc k)) _ hn1 hs0 (fun k' hk' => by
      obtain ⟨q', h1, h2⟩ := hpc k' (show k' ∈ k :: pcsOf hs from .tail _ hk')
      have hne' : n ≠ k' := fun e => by subst e; rw [hn] at h1; cases h1; exact hs0 h2
      have hne2 : k ≠ k' := fun e => nd1 (e ▸ hk')
      exact ⟨q', by rw [eg]; show ((fs.pcs.set k _).set n _)[k']? = _; rw [List.getElem?_set_ne hne', List.getElem?_set_ne hne2]; exact h1, h2⟩) nd2 (fun y hy => by
      rw [eg]
      exact hlot y hy)
    rw [e0, i1, i2, lotEff_give, pcEff_give, eg]
    dsimp only
    rw [stkN_set hnk, stkN_set hk]
    have e1 : lotEff fs z (.pc k :: hs) = lotEff fs z hs := rfl
    have e2 : pcEff fs z (.pc k :: hs) = (if q.part = z then 1 else 0) + pcEff fs z hs := by
      show ((if (fs.pcs[k]?).map (·.part) = some z then (1 : Int) else 0) + _ : Int) = _
      rw [hk]
      show ((if some q.part = some z then (1 : Int) else 0) + _ : Int) = _
      by_cases h : q.part = z
      · rw [if_pos h, if_pos (by rw [h])]; rfl
      · rw [if_neg h, if_neg (fun q => h (Option.some.inj q))]; rfl
    have e3 : stk1 z { p with holds := p.holds ++ [Hold.pc k], cost := p.cost + q.cost } = stk1 z p := rfl
    have e4 : stk1 z { q with state := "within", above := some n } = 0 := if_neg fun h => within_ns h.2
    have e5 : stk1 z q = if q.part = z then 1 else 0 := by
      unfold stk1
      by_cases h : q.part = z
      · rw [if_pos h, if_pos ⟨h, hq⟩]
      · rw [if_neg h, if_neg fun w => h w.1]
    rw [e1, e2, e3, e4, e5]
    exact ⟨by omega, by omega⟩
theorem lotEff_app (fs : Fl) (z : Str) (a b : List Hold) : lotEff fs z (a ++ b) = lotEff fs z a + lotEff fs z b := by
  unfold lotEff
  rw [lotsOf_app, List.map_append, List.sum_append]
theorem pcEff_app (fs : Fl) (z : Str) (a b : List Hold) : pcEff fs z (a ++ b) = pcEff fs z a + pcEff fs z b := by
  unfold pcEff
  rw [pcsOf_app, List.map_append, List.sum_append]
theorem sum_all {α : Type} {l : List α} {f : α → Int} {c : α → Int} {b : Prop} [Decidable b] (h : ∀ x ∈ l, f x = if b then c x else 0) : (l.map f).sum = if b then (l.map c).sum else 0 := by
  by_cases hb : b
  · rw [if_pos hb]
    congr 1
    exact List.map_congr_left fun x hx => by rw [h x hx, if_pos hb]
  · rw [if_neg hb]
    have : l.map f = l.map fun _ => (0 : Int) := List.map_congr_left fun x hx => by rw [h x hx, if_neg hb]
    rw [this]
    clear this h
    induction l with
    | nil => rfl
    | cons a l ih => rw [List.map_cons, List.sum_cons, ih]; rfl
theorem sum_ones {α : Type} (l : List α) : (l.map fun _ => (1 : Int)).sum = (l.length : Int) := by
  induction l with
  | nil => rfl
  | cons a l ih => rw [List.map_cons, List.sum_cons, ih, List.length_cons]; omega
/-- what is taken for one need is of its part, and so many -/
theorem taken_eff {fs : Fl} (I : FlI fs) {y z : Str} {m : Int} {hs : List Hold} (hm : 0 ≤ m) (h : fs.taken y m = some hs) :
    (if isBought fs.rs z = true then lotEff fs z hs else pcEff fs z hs) = if y = z then m else 0 := by
  have hsome := taken_some I y hm
  unfold Fl.taken at h
  cases hb : isBought fs.rs y with
  | true =>
    rw [hb, if_pos rfl] at h
    split at h
    · rename_i h0
      cases h
      obtain ⟨a1, _, a3, _⟩ := takeFold_ok y fs.lots fs.lots.zipIdx ([], m) (fun y hy => zip_at hy) (fun e he => nomatch he) hm
      have hsum : ((takeLots fs.lots y m).1.map (·.2)).sum = m := by
        have : ((takeLots fs.lots y m).1.map (·.2)).sum + (takeLots fs.lots y m).2 = 0 + m := a3
        omega
      have e1 : lotEff fs z (lotHolds (takeLots fs.lots y m).1) = if y = z then m else 0 := by
        unfold lotEff
        rw [lotsOf_lh, sum_all (b := y = z) (c := fun x => x.2) fun x hx => ?_, hsum]
        obtain ⟨l, h1, h2, _⟩ := a1 x hx
        rw [h1]
        show (if some l.part = some z then x.2 else 0) = _
        rw [h2]
        by_cases e : y = z
        · rw [if_pos e, if_pos (by rw [e])]
        · rw [if_neg e, if_neg fun q => e (Option.some.inj q)]
      have e2 : pcEff fs z (lotHolds (takeLots fs.lots y m).1) = 0 := by unfold pcEff; rw [pcsOf_lh]; rfl
      rw [e1, e2]
      by_cases hz : isBought fs.rs z = true
      · rw [if_pos hz]
      · rw [if_neg hz, if_neg fun (e : y = z) => hz (e ▸ hb)]
    · cases h
  | false =>
    rw [hb, if_neg Bool.false_ne_true] at h
    split at h
    · rename_i h0
      cases h
      have e1 : lotEff fs z (pcHolds ((stockOf fs.pcs y).take m.toNat)) = 0 := by unfold lotEff; rw [lotsOf_ph]; rfl
      have e2 : pcEff fs z (pcHolds ((stockOf fs.pcs y).take m.toNat)) = if y = z then m else 0 := by
        unfold pcEff
        rw [pcsOf_ph, sum_all (b := y = z) (c := fun _ => 1) fun k hk => ?_, sum_ones, List.length_take]
        · congr 1
          omega
        obtain ⟨q, h1, h2, _⟩ := mem_stockOf.mp (List.mem_of_mem_take hk)
        rw [h1]
        show (if some q.part = some z then (1 : Int) else 0) = _
        rw [h2]
        by_cases e : y = z
        · rw [if_pos e, if_pos (by rw [e])]
        · rw [if_neg e, if_neg fun q => e (Option.some.inj q)]
      rw [e1, e2]
      by_cases hz : isBought fs.rs z = true
      · rw [if_pos hz, if_neg fun (e : y = z) => by rw [e, hz] at hb; cases hb]
      · rw [if_neg hz]
    · cases h
theorem takes_eff {fs : Fl} (I : FlI fs) (z : Str) : ∀ {needs : List (Str × Int)}, (∀ x ∈ needs, 0 ≤ x.2) → (∀ x ∈ needs, (fs.taken x.1 x.2).isSome = true) →
    (if isBought fs.rs z = true then lotEff fs z (fs.takes needs).flatten else pcEff fs z (fs.takes needs).flatten) = needOf needs z
  | [], _, _ => by
    show (if isBought fs.rs z = true then (0 : Int) else 0) = 0
    split <;> rfl
  | x :: needs, hm, hs => by
    have ih := takes_eff I z (fun y hy => hm y (.tail _ hy)) (fun y hy => hs y (.tail _ hy))
    obtain ⟨h, hh⟩ := Option.isSome_iff_exists.mp (hs x (.head _))
    have e : (fs.takes (x :: needs)).flatten = h ++ (fs.takes needs).flatten := by
      show ((fs.taken x.1 x.2).getD [] :: fs.takes needs).flatten = _
      rw [hh]
      rfl
    have e1 := taken_eff I (z := z) (hm x (.head _)) hh
    rw [e, lotEff_app, pcEff_app]
    show _ = (if x.1 = z then x.2 else 0) + needOf needs z
    rw [← ih, ← e1]
    by_cases hz : isBought fs.rs z = true
    · rw [if_pos hz, if_pos hz, if_pos hz]
    · rw [if_neg hz, if_neg hz, if_neg hz]
/-- a piece begun takes what it needs -/
theorem hand_begin {fs : Fl} (I : FlOk fs) {y : Str} {r : PRow} (hr : PM.rowOf fs.rs y = some r) (hnb : (r.needs.isEmpty && r.steps.isEmpty) = false) (hl : fs.lacking r.needs = none) (z : Str) :
    (fs.begin_ y r.steps.isEmpty (fs.takes r.needs).flatten).hand z = fs.hand z - needOf r.needs z ∧ ∃ p, (fs.begin_ y r.steps.isEmpty (fs.takes r.needs).flatten).pcs[fs.pcs.length]? = some p ∧ p.part = y ∧ p.at_ = 0 ∧ p.own = 0 ∧ p.state = if r.steps.isEmpty = true then "made" else "making" := by
  obtain ⟨_, P0⟩ := I.begin_ hr hnb hl
  obtain ⟨g1, g2, g3, g4, g5⟩ := good_needs I.i.good hr
  have te := takes_eff I.i z (fun x hx => by have := (g3 x hx).1; omega) (lacking_none hl)
  generalize hhs : (fs.takes r.needs).flatten = hs at P0 te
  have h0 : (fs.pcs ++ [newPc y])[fs.pcs.length]? = some (newPc y) := List.getElem?_concat_length
  obtain ⟨e1, e2⟩ := giveAll_eff fs.pcs.length z hs { fs with pcs := fs.pcs ++ [newPc y] } (newPc y) h0 making_ns (fun k hk => by
    obtain ⟨q, q1, q2, _⟩ := P0.pc k hk
    exact ⟨q, q1, q2⟩) P0.nd (fun x hx => by
    obtain ⟨l, l1, _⟩ := P0.lot x hx
    exact (List.getElem?_eq_some_iff.mp l1).1)
  have I0 := I.i.addPc hr hnb (.begin_ y)
  have P1 : PutOk { fs with pcs := fs.pcs ++ [newPc y], book := fs.book ++ [.begin_ y] } fs.pcs.length (newPc y) hs := ⟨P0.pc, P0.nd, P0.lot, P0.ndl, P0.len⟩
  obtain ⟨J, j1, j2, ⟨c, j3⟩, j4⟩ := FlI.giveAll I0 h0 making_ne making_ns P1
  have eb : ({ fs with pcs := fs.pcs ++ [newPc y], book := fs.book ++ [.begin_ y] } : Fl).giveAll fs.pcs.length hs = { ({ fs with pcs := fs.pcs ++ [newPc y] } : Fl).giveAll fs.pcs.length hs with book := fs.book ++ [.begin_ y] } := giveAll_book fs.pcs.length hs { fs with pcs := fs.pcs ++ [newPc y] } _
  rw [eb] at j3
  replace j3 : (({ fs with pcs := fs.pcs ++ [newPc y] } : Fl).giveAll fs.pcs.length hs).pcs[fs.pcs.length]? = some { newPc y with holds := (newPc y).holds ++ hs, cost := c } := j3
  have fr := giveAll_frame fs.pcs.length hs { fs with pcs := fs.pcs ++ [newPc y] }
  have eB := begin_eq (fs := fs) (z := y) (ns := r.steps.isEmpty) (hs := hs) rfl j3
  have hlen : (({ fs with pcs := fs.pcs ++ [newPc y] } : Fl).giveAll fs.pcs.length hs).pcs.length = fs.pcs.length + 1 := by
    rw [(giveAll_len _ hs _).1]
    show (fs.pcs ++ [newPc y]).length = _
    rw [List.length_append]; rfl
  have etk := take_at hlen j3
  generalize hG : ({ fs with pcs := fs.pcs ++ [newPc y] } : Fl).giveAll fs.pcs.length hs = G at e1 e2 j3 eB hlen etk
  rw [eB]
  have hlt : (G.pcs.take fs.pcs.length).length = fs.pcs.length := by rw [List.length_take]; omega
  refine ⟨?_, ?_⟩
  · unfold Fl.hand
    dsimp only
    rw [e1, stkN_snoc]
    have e3 : stkN (G.pcs.take fs.pcs.length) z = stkN G.pcs z := by
      conv => rhs; rw [etk]
      rw [stkN_snoc]
      have : stk1 z { newPc y with holds := (newPc y).holds ++ hs, cost := c } = 0 := if_neg fun h => making_ns h.2
      rw [this, Int.add_zero]
    have e4 : stk1 z (if r.steps.isEmpty = true then { ({ newPc y with holds := (newPc y).holds ++ hs, cost := c } : Pc) with state := "made" } else { newPc y with holds := (newPc y).holds ++ hs, cost := c }) = 0 := by
      split
      · exact if_neg fun h => made_ns h.2
      · exact if_neg fun h => making_ns h.2
    have e5 : stkN (fs.pcs ++ [newPc y]) z = stkN fs.pcs z := by
      rw [stkN_snoc]
      have : stk1 z (newPc y) = 0 := if_neg fun h => making_ns h.2
      rw [this, Int.add_zero]
    dsimp only at e2
    rw [e3, e4, e2, e5, Int.add_zero]
    have e6 : ∀ z hs, (∀ k ∈ pcsOf hs, k < fs.pcs.length) → pcEff { fs with pcs := fs.pcs ++ [newPc y] } z hs = pcEff fs z hs := fun z hs hk => by
      unfold pcEff
      congr 1
      exact List.map_congr_left fun k hk' => by
        dsimp only
        rw [List.getElem?_append_left (hk k hk')]
    rw [e6 z hs fun k hk => by
      obtain ⟨q, q1, q2, _⟩ := P0.pc k hk
      have hl1 := (List.getElem?_eq_some_iff.mp q1).1
      have hl2 : (fs.pcs ++ [newPc y]).length = fs.pcs.length + 1 := by rw [List.length_append]; rfl
      replace hl1 : k < (fs.pcs ++ [newPc y]).length := hl1
      by_cases e : k = fs.pcs.length
      · subst e
        rw [h0] at q1
        cases q1
        exact absurd q2 making_ns
      · omega, ← te]
    have e7 : lotEff { fs with pcs := fs.pcs ++ [newPc y] } z hs = lotEff fs z hs := rfl
    rw [e7]
    by_cases hz : isBought fs.rs z = true
    · rw [if_pos hz, if_pos hz, if_pos hz]
    · rw [if_neg hz, if_neg hz, if_neg hz]
  · refine ⟨_, (by dsimp only; rw [List.getElem?_append_right (by omega), hlt, Nat.sub_self]; rfl), ?_⟩
    split <;> exact ⟨rfl, rfl, rfl, rfl⟩
end PM

/-! a piece begun, worked on, tested: what comes (plain) -/
namespace PM
open PySem L2 WK
/-- what a begun piece leaves -/
structure Begun (fs fs1 : Fl) (z : Str) (r : PRow) : Prop where
  told : fs.mDone (.begin_ z) = (.told (.int fs.pcs.length), fs1)
  len : fs1.pcs.length = fs.pcs.length + 1
  rs : fs1.rs = fs.rs
  rates : fs1.rates = fs.rates
  pc : ∃ p, fs1.pcs[fs.pcs.length]? = some p ∧ p.part = z ∧ p.at_ = 0 ∧ p.own = 0 ∧ p.state = if r.steps.isEmpty = true then "made" else "making"
  hand : ∀ y, fs1.hand y = fs.hand y - needOf r.needs y
theorem begun {fs : Fl} (I : FlOk fs) {z : Str} {r : PRow} (hr : PM.rowOf fs.rs z = some r) (hnb : (r.needs.isEmpty && r.steps.isEmpty) = false) (hl : fs.lacking r.needs = none) : Begun fs (fs.mDone (.begin_ z)).2 z r := by
  have e := md_begin hr hnb hl
  rw [e]
  have hb := fun y => hand_begin I hr hnb hl y
  have fr := mDone_frame fs (.begin_ z)
  rw [e] at fr
  exact ⟨e, begin_len _ _ _ _, fr.1, fr.2, (hb "").2, fun y => (hb y).1⟩
/-- a step done -/
structure Worked (fs fs1 : Fl) (k : Nat) (p : Pc) (r : PRow) : Prop where
  told : ∃ mi, fs.mDone (.work k) = (.told (.int mi), fs1) ∧ ∃ mc rate, r.steps[p.at_.toNat]? = some (mc, mi) ∧ fs.rates[mc.toNat]? = some rate ∧ fs1.pcs[k]? = some (p.work (mi * rate) r.steps.length) ∧ fs1.spent = fs.spent + mi * rate
  len : fs1.pcs.length = fs.pcs.length
  rs : fs1.rs = fs.rs
  rates : fs1.rates = fs.rates
  lots : fs1.lots = fs.lots
  other : ∀ j, j ≠ k → fs1.pcs[j]? = fs.pcs[j]?
  hand : ∀ y, fs1.hand y = fs.hand y
theorem worked {fs : Fl} (I : FlOk fs) {k : Nat} {p : Pc} {r : PRow} (hp : fs.pcs[k]? = some p) (hs : p.state = "making") (hr : PM.rowOf fs.rs p.part = some r) : Worked fs (fs.mDone (.work k)).2 k p r := by
  obtain ⟨r', j, mc, mi, rate, s1, s2, s3, s4, s5, s6, s7, s8, _⟩ := I.step hp hs
  obtain rfl : r' = r := Option.some.inj (s1.symm.trans hr)
  have e := md_work hp hs
  rw [s5, s7] at e
  dsimp only at e
  rw [s6] at e
  have ln := (List.getElem?_eq_some_iff.mp hp).1
  have n0 : p.state ≠ "stock" := by rw [hs]; exact making_ns
  have n1 : (p.work (mi * rate) r'.steps.length).state ≠ "stock" := by
    unfold Pc.work
    dsimp only
    split
    · exact made_ns
    · exact n0
  rw [e]
  refine ⟨⟨mi, e, (mc : Int), rate, ?_, ?_, ?_, rfl⟩, ?_, rfl, rfl, rfl, fun j hj => ?_, fun y => ?_⟩
  · rw [s2, Int.toNat_natCast]; exact s3
  · rw [Int.toNat_natCast]; exact s4
  · exact List.getElem?_set_self ln
  · exact List.length_set
  · exact List.getElem?_set_ne (Ne.symm hj)
  · have h := hand_set (fs' := fs.work k p (mi * rate) r'.steps.length) hp rfl rfl rfl rfl (I.i.pnb hp) y
    have z0 : stk1 y p = 0 := if_neg fun q => n0 q.2
    have z1 : stk1 y (p.work (mi * rate) r'.steps.length) = 0 := if_neg fun q => n1 q.2
    rw [z0, z1] at h
    dsimp only
    omega
/-- a test of what is made -/
theorem tested {fs : Fl} (I : FlI fs) {k : Nat} {p : Pc} (g : Bool) (hp : fs.pcs[k]? = some p) (hs : p.state = "made") :
    fs.mDone (.test k g) = (.told .none, fs.put k { p with state := if g = true then "stock" else "bad" } (.test k g)) ∧ ∀ y, (fs.put k { p with state := if g = true then "stock" else "bad" } (.test k g)).hand y = fs.hand y + if g = true ∧ p.part = y then 1 else 0 := by
  refine ⟨md_test hp (.inl hs), fun y => ?_⟩
  rw [hand_put I (p' := { p with state := if g = true then "stock" else "bad" }) hp rfl]
  have z0 : stk1 y p = 0 := if_neg fun q => made_ns (hs.symm.trans q.2)
  rw [z0]
  cases g
  · have : stk1 y { p with state := if false = true then "stock" else "bad" } = 0 := if_neg fun q => absurd q.2 (by rw [if_neg Bool.false_ne_true]; show ("bad" : Str) ≠ "stock"; decide)
    rw [this, if_neg fun q => Bool.false_ne_true q.1]
    omega
  · unfold stk1
    by_cases h : p.part = y
    · rw [if_pos ⟨h, rfl⟩, if_pos ⟨rfl, h⟩]; omega
    · rw [if_neg fun q => h q.1, if_neg fun q => h q.2]; omega
theorem newHand (rs : List PRow) (rates : List Int) (z : Str) : (Fl.new rs rates).hand z = 0 := by
  unfold Fl.hand
  split <;> rfl
/-! a book of parts without needs, and one behind it that needs them -/
theorem flat_led {rs : List PRow} (hflat : ∀ s, needsOf rs s = []) (n : Nat) : ∀ (needs f : List (Str × Int)), ((f ++ needs).map (·.1)).Nodup → needs.foldl (lawStep fun s => lawLed rs n (needsOf rs s)) f = f ++ needs
  | [], f, _ => (List.append_nil _).symm
  | x :: needs, f, nd => by
    have e0 : lawLed rs n [] = [] := by cases n <;> rfl
    have hx : x.1 ∉ f.map (·.1) := fun h => by
      rw [List.map_append, List.nodup_append] at nd
      exact nd.2.2 _ h _ (.head _) rfl
    have e1 : lawStep (fun s => lawLed rs n (needsOf rs s)) f x = f ++ [x] := by
      unfold lawStep
      dsimp only
      rw [hflat, e0]
      show addA f x.1 x.2 = _
      unfold addA
      rw [putA_new f x.1 _ hx]
      have : getA f x.1 = none := by
        cases h : getA f x.1 with
        | none => rfl
        | some v => exact absurd ((getA_isSome f x.1).mp (by rw [h]; rfl)) hx
      rw [this]
      show f ++ [(x.1, 0 + x.2)] = _
      rw [Int.zero_add]
    rw [List.foldl_cons, e1, flat_led hflat n needs (f ++ [x]) (by rw [List.append_assoc]; exact nd), List.append_assoc]
    rfl
theorem sum_le_mul {l : List Int} {b : Int} (h : ∀ x ∈ l, x ≤ b) : l.sum ≤ b * l.length := by
  induction l with
  | nil => simp
  | cons a l ih =>
    rw [List.sum_cons, List.length_cons]
    have h1 := h a (.head _)
    have h2 := ih fun x hx => h x (.tail _ hx)
    have : b * ((l.length + 1 : Nat) : Int) = b * l.length + b := by push_cast; rw [Int.mul_add, Int.mul_one]
    omega
theorem flat_book {rs : List PRow} (G : GoodBook rs) (hf : ∀ r ∈ rs, r.needs = []) {r : PRow} (R : GoodRow (rs.map (·.name)) r) (h10 : rs.length ≤ 10) : GoodBook (rs ++ [r]) := by
  have hflat : ∀ s, needsOf rs s = [] := fun s => by
    unfold needsOf
    cases h : rs.filter fun r => decide (r.name = s) with
    | nil => rfl
    | cons a l => exact hf a (List.mem_filter.mp (show a ∈ rs.filter fun r => decide (r.name = s) by rw [h]; exact .head _)).1
  refine G.snoc (by omega) R (n := rs.length + 1) (by omega) ?_
  have e : lawLed rs (rs.length + 1) r.needs = r.needs := by
    show r.needs.foldl _ [] = _
    rw [flat_led hflat _ r.needs [] R.nd]
    rfl
  rw [e]
  have hl : r.needs.length ≤ rs.length := by
    have := nodup_sub_length R.nd (l' := rs.map (·.name)) fun x hx => by
      obtain ⟨y, hy, rfl⟩ := List.mem_map.mp hx
      exact R.known y hy
    rwa [List.length_map, List.length_map] at this
  have h9 := sum_le_mul (l := r.needs.map (·.2)) (b := 9) fun x hx => by
    obtain ⟨y, hy, rfl⟩ := List.mem_map.mp hx
    exact (R.many y hy).2
  rw [List.length_map] at h9
  omega
end PM

/-! k12: a book of some parts, and one that needs them all -/
namespace PM
open PySem L2 WK
abbrev names12 : List Str := ["pa", "pb", "pc", "pd"]
def steps12 (z : Str) : List (Int × Int) := if z = "pb" then [(0, 1)] else []
def row12 (z : Str) : PRow := ⟨z, [], steps12 z, 1, 0⟩
def whole12 (needs : List (Str × Int)) : PRow := ⟨"whole", needs, [], 1, 0⟩
def rs12 (n : Nat) (needs : List (Str × Int)) : List PRow := (names12.take n).map row12 ++ [whole12 needs]
structure Nd12 (n : Nat) (needs : List (Str × Int)) : Prop where
  n1 : 1 ≤ n
  n4 : n ≤ 4
  keys : needs.map (·.1) = names12.take n ∨ needs.map (·.1) = (names12.take n).reverse
  many : ∀ x ∈ needs, 1 ≤ x.2 ∧ x.2 ≤ 9
theorem names_nd (n : Nat) : (names12.take n).Nodup := (List.take_sublist n names12).nodup (by decide)
section
variable {n : Nat} {needs : List (Str × Int)}
theorem Nd12.nd (N : Nd12 n needs) : (needs.map (·.1)).Nodup := by
  rcases N.keys with h | h
  · rw [h]; exact names_nd n
  · rw [h]; exact (List.reverse_perm _).nodup_iff.mpr (names_nd n)
theorem Nd12.mem (N : Nd12 n needs) (z : Str) : z ∈ needs.map (·.1) ↔ z ∈ names12.take n := by
  rcases N.keys with h | h
  · rw [h]
  · rw [h, List.mem_reverse]
theorem Nd12.len (N : Nd12 n needs) : needs.length = n := by
  have h : (needs.map (·.1)).length = (names12.take n).length := by
    rcases N.keys with h | h
    · rw [h]
    · rw [h, List.length_reverse]
  rw [List.length_map, List.length_take] at h
  have := N.n4
  show needs.length = n
  rw [h]
  show min n 4 = n
  omega
theorem flat12 : ∀ n : Fin 5, goodB ((names12.take n).map row12) = true := by decide +kernel
theorem rows_names (n : Nat) : ((names12.take n).map row12).map (·.name) = names12.take n := by
  rw [List.map_map]
  exact List.map_id _
theorem whole_nm : isNameM "whole" = true := by decide +kernel
theorem whole_new : ("whole" : Str) ∉ names12 := by decide
theorem Nd12.good (N : Nd12 n needs) : GoodBook (rs12 n needs) := by
  have h4 := N.n4
  refine flat_book (goodB_book (flat12 ⟨n, by omega⟩)) (fun r hr => ?_) ?_ ?_
  · obtain ⟨z, _, rfl⟩ := List.mem_map.mp hr
    rfl
  · dsimp only
    rw [rows_names]
    refine ⟨whole_nm, fun h => whole_new (List.mem_of_mem_take h), ⟨by show (1 : Int) ≤ 1; decide, by show (1 : Int) ≤ 99; decide⟩, ⟨by show (0 : Int) ≤ 0; decide, by show (0 : Int) ≤ 30; decide⟩, N.nd, fun x hx => ?_, N.many, Nat.zero_le _, fun x hx => nomatch hx⟩
    exact (N.mem x.1).mp (List.mem_map.mpr ⟨x, hx, rfl⟩)
  · rw [List.length_map, List.length_take]
    omega
theorem find_row12 (w : PRow) (z : Str) : ∀ (l : List Str), z ∈ l → (l.map row12 ++ [w]).find? (fun r => decide (r.name = z)) = some (row12 z)
  | [], h => nomatch h
  | a :: l, h => by
    rw [List.map_cons, List.cons_append, List.find?_cons]
    by_cases e : a = z
    · subst e
      rw [show decide ((row12 a).name = a) = true from decide_eq_true rfl]
    · rw [show decide ((row12 a).name = z) = false from decide_eq_false e]
      rcases List.mem_cons.mp h with h | h
      · exact absurd h.symm e
      · exact find_row12 w z l h
theorem row_part (needs : List (Str × Int)) {z : Str} (h : z ∈ names12.take n) : PM.rowOf (rs12 n needs) z = some (row12 z) := find_row12 _ z _ h
theorem row_whole (needs : List (Str × Int)) (n : Nat) : PM.rowOf (rs12 n needs) "whole" = some (whole12 needs) := by
  have gen : ∀ (l : List Str), ("whole" : Str) ∉ l → (l.map row12 ++ [whole12 needs]).find? (fun r => decide (r.name = ("whole" : Str))) = some (whole12 needs) := by
    intro l
    induction l with
    | nil => intro _; rfl
    | cons a l ih =>
      intro h
      rw [List.map_cons, List.cons_append, List.find?_cons]
      rw [show decide ((row12 a).name = ("whole" : Str)) = false from decide_eq_false fun (e : a = "whole") => h (e ▸ .head _)]
      exact ih fun q => h (.tail _ q)
  exact gen _ fun h => whole_new (List.mem_of_mem_take h)
theorem bought12 (needs : List (Str × Int)) {z : Str} (h : z ∈ names12.take n) : isBought (rs12 n needs) z = decide (z ≠ "pb") := by
  unfold isBought
  rw [row_part needs h]
  show (true && (steps12 z).isEmpty) = _
  unfold steps12
  by_cases e : z = "pb"
  · rw [if_pos e, decide_eq_false (fun q => q e)]; rfl
  · rw [if_neg e, decide_eq_true e]; rfl
/-- the floor: what is had of each part -/
structure K12 (n : Nat) (needs l : List (Str × Int)) (fs : Fl) : Prop where
  rs : fs.rs = rs12 n needs
  hand : ∀ z, fs.hand z = (getA l z).getD 0
theorem K12.knew (n : Nat) (needs : List (Str × Int)) : K12 n needs [] (Fl.new (rs12 n needs) (List.replicate 6 3)) := ⟨rfl, fun z => newHand _ _ z⟩
theorem getA_snoc (l : List (Str × Int)) (x : Str × Int) (h : x.1 ∉ l.map (·.1)) (z : Str) : (getA (l ++ [x]) z).getD 0 = (getA l z).getD 0 + if x.1 = z then x.2 else 0 := by
  have hn : getA l x.1 = none := by
    cases h' : getA l x.1 with
    | none => rfl
    | some v => exact absurd ((getA_isSome l x.1).mp (by rw [h']; rfl)) h
  unfold getA at hn ⊢
  rw [List.find?_append]
  by_cases e : x.1 = z
  · subst e
    have : List.find? (fun p => decide (p.1 = x.1)) l = none := by
      cases h' : List.find? (fun p => decide (p.1 = x.1)) l with
      | none => rfl
      | some v => rw [h'] at hn; cases hn
    rw [this, if_pos rfl]
    have e2 : List.find? (fun p => decide (p.1 = x.1)) [x] = some x := by rw [List.find?_cons, decide_eq_true rfl]
    rw [e2]
    show x.2 = 0 + x.2
    rw [Int.zero_add]
  · rw [if_neg e, Int.add_zero]
    have : List.find? (fun p => decide (p.1 = z)) [x] = none := by rw [List.find?_cons, decide_eq_false e]; rfl
    rw [this, Option.or_none]
/-- a lot bought -/
theorem K12.kbuy {l : List (Str × Int)} {fs : Fl} (N : Nd12 n needs) (k : K12 n needs l fs) {z : Str} {m : Int} (hz : z ∈ names12.take n) (hp : z ≠ "pb") (hl : z ∉ l.map (·.1)) (h1 : 1 ≤ m) (h2 : m ≤ 999) :
    fs.mDone (.buy z m 2) = (.told (.int fs.lots.length), fs.buy z m 2) ∧ K12 n needs (l ++ [(z, m)]) (fs.buy z m 2) := by
  have hb : isBought fs.rs z = true := by rw [k.rs, bought12 needs hz]; exact decide_eq_true hp
  refine ⟨md_buy hb ⟨h1, h2⟩ ⟨by decide, by decide⟩, k.rs, fun y => ?_⟩
  rw [hand_buy hb, k.hand, getA_snoc _ _ hl]
/-- nothing had -/
theorem K12.knone {l : List (Str × Int)} {fs : Fl} (k : K12 n needs l fs) {z : Str} (hl : z ∉ l.map (·.1)) : K12 n needs (l ++ [(z, 0)]) fs := ⟨k.rs, fun y => by
  rw [k.hand, getA_snoc _ _ hl]
  dsimp only
  split <;> omega⟩
/-- pieces of pb made, so many -/
structure M12 (n : Nat) (needs l : List (Str × Int)) (v : Int) (fs : Fl) : Prop where
  rs : fs.rs = rs12 n needs
  hand : ∀ z, fs.hand z = (getA l z).getD 0 + if "pb" = z then v else 0
theorem K12.km {l : List (Str × Int)} {fs : Fl} (k : K12 n needs l fs) : M12 n needs l 0 fs := ⟨k.rs, fun z => by rw [k.hand]; split <;> omega⟩
theorem M12.kk {l : List (Str × Int)} {v : Int} {fs : Fl} (m : M12 n needs l v fs) (hl : ("pb" : Str) ∉ l.map (·.1)) : K12 n needs (l ++ [(("pb" : Str), v)]) fs := ⟨m.rs, fun z => by rw [m.hand, getA_snoc _ _ hl]⟩
structure Made12 (n : Nat) (needs l : List (Str × Int)) (v : Int) (fs : Fl) : Prop where
  t1 : fs.mDone (.begin_ "pb") = (.told (.int fs.pcs.length), (fs.mDone (.begin_ "pb")).2)
  t2 : ((fs.mDone (.begin_ "pb")).2.mDone (.work fs.pcs.length)).1.isTold = true
  t3 : (((fs.mDone (.begin_ "pb")).2.mDone (.work fs.pcs.length)).2.mDone (.test fs.pcs.length true)).1.isTold = true
  m : M12 n needs l (v + 1) (((fs.mDone (.begin_ "pb")).2.mDone (.work fs.pcs.length)).2.mDone (.test fs.pcs.length true)).2
  len : (((fs.mDone (.begin_ "pb")).2.mDone (.work fs.pcs.length)).2.mDone (.test fs.pcs.length true)).2.pcs.length = fs.pcs.length + 1
theorem M12.made {l : List (Str × Int)} {v : Int} {fs : Fl} (I : FlOk fs) (m : M12 n needs l v fs) (hz : ("pb" : Str) ∈ names12.take n) : Made12 n needs l v fs := by
  have hr : PM.rowOf fs.rs "pb" = some (row12 "pb") := by rw [m.rs]; exact row_part needs hz
  have B := begun I hr (by decide) rfl
  have I1 := I.mDone (.begin_ "pb")
  have t1 := congrArg Prod.fst B.told
  generalize hf1 : (fs.mDone (.begin_ "pb")).2 = fs1 at B I1
  obtain ⟨p, hp, p1, p2, p3, p4⟩ := B.pc
  have hps : p.state = "making" := p4
  have hr1 : PM.rowOf fs1.rs p.part = some (row12 "pb") := by rw [B.rs, p1]; exact hr
  have W := worked I1 hp hps hr1
  have I2 := I1.mDone (.work fs.pcs.length)
  generalize hf2 : (fs1.mDone (.work fs.pcs.length)).2 = fs2 at W I2
  obtain ⟨mi, w1, mc, rate, w2, w3, w4, w5⟩ := W.told
  have hst : (p.work (mi * rate) (row12 "pb").steps.length).state = "made" := by
    unfold Pc.work
    dsimp only
    rw [p2]
    exact if_pos rfl
  obtain ⟨T1, T2⟩ := tested I2.i true w4 hst
  refine ⟨by rw [hf1]; exact B.told, by rw [hf1, w1]; rfl, by rw [hf1, hf2, T1]; rfl, ?_, ?_⟩
  · rw [hf1, hf2, T1]
    refine ⟨by show fs2.rs = _; rw [W.rs, B.rs, m.rs], fun z => ?_⟩
    dsimp only
    rw [T2, W.hand, B.hand, m.hand]
    have e1 : needOf (row12 "pb").needs z = 0 := rfl
    have e2 : (p.work (mi * rate) (row12 "pb").steps.length).part = "pb" := p1
    rw [e1, e2]
    by_cases e : "pb" = z
    · rw [if_pos e, if_pos e, if_pos ⟨rfl, e⟩]; omega
    · rw [if_neg e, if_neg e, if_neg fun q => e q.2]; omega
  · rw [hf1, hf2, T1]
    show (fs2.pcs.set _ _).length = _
    rw [List.length_set, W.len, B.len]
/-- what is had, behind all needs -/
def shortL (needs l : List (Str × Int)) : List Str := (needs.filter fun x => decide ((getA l x.1).getD 0 < x.2)).map (·.1)
theorem K12.klack {l : List (Str × Int)} {fs : Fl} (N : Nd12 n needs) (I : FlI fs) (k : K12 n needs l fs) : fs.lacking needs = (shortL needs l).head? := by
  rw [lacking_short I fun x hx => by have := (N.many x hx).1; omega]
  unfold Fl.short shortL
  congr 3
  funext x
  rw [k.hand]
theorem needOf_at {needs : List (Str × Int)} (nd : (needs.map (·.1)).Nodup) {x : Str × Int} (hx : x ∈ needs) : needOf needs x.1 = x.2 := by
  unfold needOf
  induction needs with
  | nil => exact nomatch hx
  | cons a l ih =>
    rw [List.map_cons, List.nodup_cons] at nd
    rw [List.map_cons, List.sum_cons]
    rcases List.mem_cons.mp hx with rfl | hx
    · rw [if_pos rfl]
      have : l.map (fun y => if y.1 = x.1 then y.2 else 0) = l.map fun _ => (0 : Int) := List.map_congr_left fun y hy => if_neg fun e => nd.1 (List.mem_map.mpr ⟨y, hy, e⟩)
      rw [this]
      have z : ∀ l : List (Str × Int), (l.map fun _ => (0 : Int)).sum = 0 := fun l => by
        induction l with
        | nil => rfl
        | cons a l ih => rw [List.map_cons, List.sum_cons, ih]; rfl
      rw [z]
      omega
    · rw [if_neg fun e => nd.1 (List.mem_map.mpr ⟨x, hx, e.symm⟩), ih nd.2 hx]
      omega
/-- the whole one begun -/
theorem K12.kwhole {l : List (Str × Int)} {fs : Fl} (N : Nd12 n needs) (I : FlOk fs) (k : K12 n needs l fs) (hs : shortL needs l = []) : Begun fs (fs.mDone (.begin_ "whole")).2 "whole" (whole12 needs) := by
  have hr : PM.rowOf fs.rs "whole" = some (whole12 needs) := by rw [k.rs]; exact row_whole needs n
  refine begun I hr ?_ (by show fs.lacking needs = none; rw [k.klack N I.i, hs]; rfl)
  show (needs.isEmpty && true) = false
  have := N.len
  have := N.n1
  cases needs with
  | nil => simp at *; omega
  | cons a l => rfl
end
end PM

/-! lambdas as values: made, kept, called by a def that got one -/
namespace WK
open PySem PySem.Spec PyProof.Rows L2
abbrev lamFn (q : Str) (params : Arguments) (body : Expr) (scope : Scope) (cl : List (Str × Addr)) (pm dv cdv ct : Value) : FuncData :=
  { name := "<lambda>", qualname := q, params, body := .expr body, scope, globals := mainGlobals, closure := cl, defaults := dv, kwdefaults := .none, doc := .none, pyModule := pm, annotations := none, code := cdv, closureTuple := ct, builtins := builtinsNs }
section
variable {M : Model} {A : Around} {E : Value → Shared → Prop} {s : Shared} {Q : Value → Shared → Prop} {q : Str} {params : Arguments} {body : Expr} {scope : Scope} {env : Env} {c P : Addr} {ps : Array Value} {pos : Pos} {fl : Nat} {mg : Str → Option Value} {clos : List (Str × Addr)} {dv : Value}
end
/-! ### what is known of one -/
/-- a default, or none -/
def DfOf (params : Arguments) (env : Env) : Option Int → Prop
  | none => defaultsOf params env = ([], [])
  | some n => ∃ j p, defaultsOf params env = ([eval (.Constant (.int n) j p) env], [])
def DfK (H : Hp) (dv : Value) : Option Int → Prop
  | none => dv = .none
  | some n => ∃ T, dv = .ref T ∧ H T = some (.tup [.int n])
theorem DfK.up {H H' : Hp} {dv : Value} {d : Option Int} (h : DfK H dv d) (e : Ex H H') : DfK H' dv d := by
  cases d with
  | none => exact h
  | some n => obtain ⟨T, h1, h2⟩ := h; exact ⟨T, h1, e _ _ h2⟩
/-- the lambda's names: its parameter is none of the def's -/
structure LamS2 (N : List Str) (sc scope : Scope) : Prop where
  kind : scope.kind = .function
  co : scope.isCoroutine = false
  gen : scope.isGenerator = false
  own : ∀ y ∈ scope.names, y.2 ≠ .cell ∧ (y.2 = .local → y.1 ∉ N)
  free : ∀ y ∈ scope.names, y.2 = .free → sc.names.lookup y.1 = some .cell ∨ sc.names.lookup y.1 = some .free
def lamSB2 (N : List Str) (sc scope : Scope) : Bool :=
  decide (scope.kind = .function) && !scope.isCoroutine && !scope.isGenerator && scope.names.all fun y => !decide (y.2 = .cell) && (!decide (y.2 = .local) || decide (y.1 ∉ N)) && (!decide (y.2 = .free) || decide (sc.names.lookup y.1 = some .cell) || decide (sc.names.lookup y.1 = some .free))
/-- what it binds when nothing is handed on -/
def LamB (params : Arguments) (body : Expr) (scope : Scope) : Option Int → Prop
  | none => ∀ (q : Str) (cl : List (Str × Addr)) (pm cdv ct : Value), bindArgs (lamFn q params body scope cl pm .none cdv ct) ⟨[], []⟩ = pure []
  | some _ => ∃ a : Str, scope.names.lookup a = some .local ∧ ∀ (q : Str) (cl : List (Str × Addr)) (pm cdv ct : Value) (T : Addr), ∃ kf, bindArgs (lamFn q params body scope cl pm (.ref T) cdv ct) ⟨[], []⟩ = seqItems? (.ref T) >>= kf ∧ ∀ v, kf (some #[v]) = pure [(a, v)]
/-- its text reads so -/
structure LamM (X : Cx) (k : Nat) (params : Arguments) (body : Expr) (scope : Scope) (d : Option Int) (t : XK → TE) : Prop where
  L : LamS2 X.N X.env.scope scope
  b : LamB params body scope d
  pe : ∀ (A : Around) (outer : List Env) (s : Shared) (H : Hp) (E : XK) (f c' : Addr), Room k (A.deeper (LamX.lamEnv X scope s.heap.objs.size f c')) → PE (LamX.lamCx X A outer s H E scope f c') body (t E)
def LamO (X : Cx) (q : Str) (k : Nat) (t : XK → TE) (c' : Addr) (d : Option Int) (dv : Value) (f : Addr) : HO := .ext fun h => ∃ (params : Arguments) (body : Expr) (scope : Scope) (pm ctv : Value),
  h.get? f = some { cls := .type "function", data := .func (lamFn q params body scope (cloFrom X.env.cells scope.names []) pm dv (.ref c') ctv) } ∧ LamM X k params body scope d t
/-- the function at f is a lambda that reads so -/
def LamV (X : Cx) (q : Str) (k : Nat) (t : XK → TE) (H : Hp) (f : Addr) : Prop := ∃ (c' : Addr) (d : Option Int) (dv : Value), H f = some (LamO X q k t c' d dv f) ∧ H c' = some (LamX.CodeO c' q) ∧ DfK H dv d
theorem LamV.up {X : Cx} {q : Str} {k : Nat} {t : XK → TE} {H H' : Hp} {f : Addr} (h : LamV X q k t H f) (e : Ex H H') : LamV X q k t H' f := by
  obtain ⟨c', d, dv, h1, h2, h3⟩ := h
  exact ⟨c', d, dv, e _ _ h1, e _ _ h2, h3.up e⟩
theorem LamS2.has {X : Cx} {scope : Scope} (L : LamS2 X.N X.env.scope scope) (ok : X.Ok) : ∀ y ∈ scope.names, y.2 = .free → ∃ c, X.env.cells.lookup y.1 = some c := fun y hy e => (L.free y hy e).elim (fun k => ok.has _ (.inl k)) fun k => ok.has _ (.inr k)
section
variable {X : Cx} {pins : List (Addr × Obj)} {σ : L2.St} {H : Hp} {s : Shared}
/-- the default's tuple, or nothing -/
def DfN (H : Hp) (dv : Value) (H0 : Hp) : Option Int → Prop
  | none => dv = .none ∧ H0 = H
  | some n => ∃ T, dv = .ref T ∧ H T = none ∧ H0 = upd H T (.tup [.int n])
theorem DfN.k {H H0 : Hp} {dv : Value} {d : Option Int} (h : DfN H dv H0 d) : DfK H0 dv d := by
  cases d with
  | none => exact h.1
  | some n => obtain ⟨T, h1, h2, rfl⟩ := h; exact ⟨T, h1, upd_same⟩
theorem DfN.ex {H H0 : Hp} {dv : Value} {d : Option Int} (h : DfN H dv H0 d) : Ex H H0 := by
  cases d with
  | none => rw [h.2]; exact Ex.refl _
  | some n => obtain ⟨T, h1, h2, rfl⟩ := h; exact Ex.new h2
/-- what making a lambda leaves of the table; its code object -/
def NewTabC (H : Hp) (P : Addr) (q : Str) (ps : Array Value) (c' : Addr) (H1 : Hp) : Prop := (H1 = H ∧ ∃ pos : Pos, codeAmong pos ps.toList = some (.ref c')) ∨ ∃ more : Array Value, H c' = none ∧ H1 = upd (upd H P (.tbl (ps ++ more))) c' (LamX.CodeO c' q) ∧ TriplesOk (ps ++ more).toList ∧ ∀ (pos : Pos) (cv : Value), codeAmong pos (ps ++ more).toList = some cv → codeAmong pos ps.toList = some cv ∨ cv = .ref c'
end
/-- lambda: body, the table of one's own -/
def tLamV (X : Cx) (P : Addr) (q : Str) (k : Nat) (t : XK → TE) : TE := fun _ H Q => ∃ ps, H P = some (.tbl ps) ∧ TriplesOk ps.toList ∧ (∀ (pos : Pos) (cv : Value), codeAmong pos ps.toList = some cv → ∃ c, cv = .ref c ∧ H c = some (LamX.CodeO c q)) ∧
  ∀ (f c' : Addr) (d : Option Int) (dv : Value) (H0 H1 : Hp), DfN H dv H0 d → NewTabC H0 P q ps c' H1 → H1 f = none → Q (.ref f) (upd H1 f (LamO X q k t c' d dv f))
end WK

/-! a lambda called; a comprehension whose element leans on the def's own names -/
namespace WK
open PySem PySem.Spec PyProof.Rows L2
section
variable {X : Cx} {pins : List (Addr × Obj)} {σ : L2.St} {H HB HZ : Hp} {s sB s1 : Shared}
end
section
variable {X : Cx} {pins : List (Addr × Obj)} {σ : L2.St} {H : Hp} {s : Shared}
/-- x(e), e a lambda's name: with the names as they were at s (σ) -/
def tToV (X : Cx) (q : Str) (k : Nat) (TT : (XK → Hp → VK → Prop) → Hp → VK → Prop) (te : TE) (σ0 : L2.St) : TE := fun σ H Q => te σ H fun v H1 => ∃ f t, v = .ref f ∧ LamV X q k t H1 f ∧ TT (fun E H' Q' => t E σ0 H' Q') H1 Q
end
section
variable {X : Cx}
end
end WK

/-! lists whose members are data or dicts -/
namespace WK
open PySem PySem.Spec PyProof.Rows L2
open PySem.SeqAt
open AutoSeq1 (wpAny_loadPart')
open MeetsSeq MeetsSeq2 MeetsSeq3 SeqRoads2
/-- two values are found the same, in this world -/
def EqIn (prog : Program) (w : World) (A : Around) (s : Shared) (y x : Value) : Prop := ∀ (E : Value → Shared → Prop) (Q : Bool → Shared → Prop), Q true s → wpAny (model prog w) A (eqBool y x) Q E s
section
variable {prog : Program} {w : World}
theorem loop_neIn (l b : Addr) (items items2 : Array Value) (n n2 : Nat) (dd dd2 : Option Addr) (sl sl2 : Array (Option Value)) (hsz : items.size = items2.size) (k : Nat) : ∀ (i : Nat), items.size - i = k → ∀ (A : Around) (R : Result → Shared → Prop) (s : Shared),
    s.heap.get? l = some { cls := .type "list", dict := dd, data := .seq items n, slots := sl } → s.heap.get? b = some { cls := .type "list", dict := dd2, data := .seq items2 n2, slots := sl2 } →
    (∀ j (h1 : j < items.size) (h2 : j < items2.size), EqIn prog w A.in1 s items[j] items2[j]) → R (.ok (.ret (.bool false))) s →
    wpAny (model prog w) A.in1 (Builtin.«list.__eq__.loop» ⟨[.ref l, .ref b, rawInt i, rawInt 3], []⟩) (fun fin s' => match fin with | .done f => R (.ok f) s' | .again c' => c'.quiet = true ∧ codeAny (model prog w) A c' R s') (fun e s' => R (.error e) s') s := by
  induction k with
  | zero =>
    intro i hk A R s hl hb he h
    obtain ⟨hp, g, d, tk, os⟩ := s
    wp_walk using wpAny_loadPart' hl, wpAny_loadPart' hb
    have hi1 : items[((i : Nat) : Int).toNat]? = none := by simp; omega
    have hi2 : items2[((i : Nat) : Int).toNat]? = none := by simp; omega
    rw [hi1, hi2]
    wp_walk using wpAny_loadPart' hl, wpAny_loadPart' hb
    show R (.ok (.ret (.bool (items.size != items2.size)))) _
    rw [hsz]
    simpa using h
  | succ k ih =>
    intro i hk A R s hl hb he h
    obtain ⟨hp, g, d, tk, os⟩ := s
    wp_walk using wpAny_loadPart' hl, wpAny_loadPart' hb
    have hlt : i < items.size := by omega
    have hlt2 : i < items2.size := by omega
    have hi1 : items[((i : Nat) : Int).toNat]? = some items[i] := by simp [hlt]
    have hi2 : items2[((i : Nat) : Int).toNat]? = some items2[i] := by simp [hlt2]
    have hc : ((i : Int) + 1) = ((i + 1 : Nat) : Int) := by push_cast; rfl
    rw [hi1, hi2]
    refine wpAny_bind (he i hlt hlt2 _ _ ?_)
    wp_walk
    rw [hc]
    exact ⟨plainId_quiet plain_eq_loop _, codeAny_builtin entry_eq_loop (by
      rw [Around.under_plainId plain_eq_loop _]
      exact ih (i + 1) (by omega) A R _ hl hb he h)⟩
variable {A : Around} {E : Value → Shared → Prop} {s : Shared} {Q : Value → Shared → Prop}
theorem lists_neIn {l b : Addr} {items items2 : Array Value} (hl : s.heap.IsList l items) (hb : s.heap.IsList b items2) (hsz : items.size = items2.size) (hu : A.units < cLine) (he : ∀ j (h1 : j < items.size) (h2 : j < items2.size), EqIn prog w A.in1 s items[j] items2[j]) (h : Q (.bool false) s) : wpAny (model prog w) A (compareOp .NotEq (.ref l) (.ref b)) Q E s := by
  obtain ⟨⟨cls, dd, data, sl⟩, ho, hc, n, hd⟩ := id hl
  obtain ⟨⟨cls2, dd2, data2, sl2⟩, ho2, hc2, n2, hd2⟩ := id hb
  simp only at hc hd hc2 hd2
  subst hc hd hc2 hd2
  refine wpAny_richCompare_same_room (op := .NotEq) ⟨_, ho, rfl⟩ ⟨_, ho2, rfl⟩ F.slot_list_ne ?_ hu
  refine wpAny_call (codeAny_call_builtin F.slot_list_ne.plain F.entry_list_ne (F.slot_list_ne.check _ _ _ _ _ _ _ _ ⟨_, ho, rfl⟩ (F.args_list_ne_2 _ _) ?_))
  obtain ⟨hp, g, d, tk, os⟩ := s
  have f3 := AutoSeq1.sub_list_list
  have hne : ¬ (items.size != items2.size) = true := by simp [hsz]
  wp_walk using wpAny_loadPart' ho, wpAny_loadPart' ho2
  exact ⟨plainId_quiet plain_eq_loop _, codeAny_builtin entry_eq_loop (by
    rw [Around.under_plainId plain_eq_loop _]
    exact loop_neIn l b items items2 n n2 dd dd2 sl sl2 hsz _ 0 rfl A (wants (fun v s' => v ≠ Value.notImplemented ∧ Q v s') E) _ ho ho2 he ⟨(fun x => nomatch x), h⟩)⟩
end
/-- alike: as data, or as dicts -/
def EvK (K : PySem.W.Frag) (H : Hp) (x y : V) : Prop := (∃ (n : Nat) (d : PyData), Dp K H x d ∧ Dp K H y d ∧ Shp n d ∧ n ≤ 60) ∨ ∃ (a b : Addr) (ks ls : List (Key × V)), x = .ref a ∧ y = .ref b ∧ a ≠ b ∧ Rd H a (.dK ks) ∧ Rd H b (.dK ls) ∧ ks.length = ls.length ∧ ∀ p ∈ ks, valV ls p.1 = some p.2 ∧ flatB p.2 = true
section
variable {X : Cx} {pins : List (Addr × Obj)} {σ : L2.St} {H : Hp} {s : Shared} {x y : V} {v u : Value}
theorem ev_at (I : Inv X pins σ H s) (hu : X.A.units + 64 < cLine) (h : EvK X.K H x y) (rx : RelV x v) (ry : RelV y u) : EqIn X.prog X.w X.A.in1 s v u := by
  rcases h with ⟨n, d, h1, h2, sh, hn⟩ | ⟨a, b, ks, ls, rfl, rfl, ne, h1, h2, hlen, hp⟩
  · obtain ⟨as, r1⟩ := Dp.reads I d x v h1 rx
    obtain ⟨bs, r2⟩ := Dp.reads I d y u h2 ry
    have e := SeqAt.eqAt_reads d d X.A.in1 s v u as bs r1 r2 sh.1 sh.1 (by
      have h3 := sh.2
      show X.A.units + 1 + min d.depth d.depth < cLine
      omega)
    rw [SeqAt.eqv_refl d sh.1] at e
    exact fun E Q q => e _ _ E Q q
  · obtain rfl : v = Value.ref a := rx
    obtain rfl : u = Value.ref b := ry
    obtain ⟨_, ya, va, ra, da⟩ := dk_rd I.hok h1
    obtain ⟨_, yb, vb, rb, db⟩ := dk_rd I.hok h2
    have hl : va.length = vb.length := by rw [← ra.length, ← rb.length]; exact hlen
    intro E Q q
    unfold eqBool
    refine wpAny_holding ?_
    refine wpAny_ite_split (fun hab => absurd (by have := eq_of_beq hab; injection this) ne) (fun _ => ?_)
    refine wpAny_bind (m := richCompare .Eq (.ref a) (.ref b)) ?_
    exact PySem.W.keq_eq (A := X.A.in1) (knd := mixKind X.prog X.w) (r := true) ya yb da db (by show X.A.units + 1 < cLine; omega) (fun _ => hits_all rb ra hp) (wpAny_truthy_bool (by rw [hl]; simpa using q))
def rMix (K : PySem.W.Frag) (r : Bool) : V → V → Hp → VK → Prop := fun x y H Q => ∃ (a b : Addr) (xs ys : List V), x = .ref a ∧ y = .ref b ∧ SqL K H a xs ∧ SqL K H b ys ∧ xs.length = ys.length ∧ (∀ (i : Nat) (x y : V), xs[i]? = some x → ys[i]? = some y → EvK K H x y) ∧ Q (.bl r) H
theorem vals_at {xs : List V} {its : List Value} (r : Vals xs its) {j : Nat} (h : j < its.length) : ∃ x, xs[j]? = some x ∧ RelV x its[j] := by
  induction r generalizing j with
  | nil => exact absurd h (by simp)
  | cons h1 h2 ih =>
    cases j with
    | zero => exact ⟨_, rfl, h1⟩
    | succ j =>
      obtain ⟨x, e1, e2⟩ := ih (j := j) (by simpa using h)
      exact ⟨x, e1, e2⟩
theorem mix_lists (I : Inv X pins σ H s) (hu : X.A.units + 64 < cLine) {a b : Addr} {xs ys : List V} (h1 : SqL X.K H a xs) (h2 : SqL X.K H b ys) (hl : xs.length = ys.length) (he : ∀ (i : Nat) (x y : V), xs[i]? = some x → ys[i]? = some y → EvK X.K H x y) :
    ∃ (i1 i2 : Array Value), s.heap.IsList a i1 ∧ s.heap.IsList b i2 ∧ i1.size = i2.size ∧ ∀ j (g1 : j < i1.size) (g2 : j < i2.size), EqIn X.prog X.w X.A.in1 s i1[j] i2[j] := by
  obtain ⟨its, r1, p1, _⟩ := I.list h1
  obtain ⟨jts, r2, p2, _⟩ := I.list h2
  refine ⟨its.toArray, jts.toArray, p1.isList, p2.isList, by rw [List.size_toArray, List.size_toArray, ← r1.length, ← r2.length]; exact hl, fun j g1 g2 => ?_⟩
  rw [List.size_toArray] at g1 g2
  obtain ⟨x, e1, q1⟩ := vals_at r1 g1
  obtain ⟨y, e2, q2⟩ := vals_at r2 g2
  exact ev_at I hu (he j x y e1 e2) q1 q2
theorem op_neMix (hu : X.A.units + 64 < cLine) : OpR X (compareOp .NotEq) (rMix X.K false) := by
  intro pins s σ H x y v u Q I rx ry h
  obtain ⟨a, b, xs, ys, rfl, rfl, h1, h2, hl, he, q⟩ := h
  obtain rfl : v = Value.ref a := rx
  obtain rfl : u = Value.ref b := ry
  obtain ⟨i1, i2, p1, p2, hs, hh⟩ := mix_lists I hu h1 h2 hl he
  exact lists_neIn p1 p2 hs (by omega) hh (fin_bl I q rfl)
end
section
variable {P : Program} {w : World} {K : PySem.W.Frag} {H : Hp} {Q : VK} {a b : Addr} {xs ys : List V}
theorem v_neMix (h1 : SqL K H a xs) (h2 : SqL K H b ys) (hl : xs.length = ys.length) (he : ∀ (i : Nat) (x y : V), xs[i]? = some x → ys[i]? = some y → EvK K H x y) (k : Q (.bl false) H) : OpU P w K (compareOp .NotEq) (.ref a) (.ref b) H Q :=
  .ofK (r := fun K => rMix K false) (fun _ al => op_neMix al.hu64) ⟨a, b, xs, ys, rfl, rfl, h1, h2, hl, he, k⟩
end
end WK

/-! tuple[::-1]; a lambda made in a comprehension's block -/
namespace WK
open PySem PySem.Spec PyProof.Rows L2
open PySem.Builtin.Slice
section
variable {prog : Program} {w : World} {A : Around} {E : Value → Shared → Prop} {s : Shared}
theorem sliceApplied_rev {sl : Addr} {n : Nat} {u : Tok} {Q : Int × Int × Nat → Shared → Prop} (hs : s.heap.IsSliceOf sl .none .none (.int (-1) u)) (h : Q ((n : Int) - 1, -1, n) s) :
    wpAny (model prog w) A (sliceApplied (.ref sl) (pure (n : Int))) Q E s := by
  obtain ⟨os, hos, hcs, hds⟩ := id hs
  unfold sliceApplied sliceFields
  refine wpAny_bind (wpAny_bind (wpAny_field hos hds (x := .none) rfl (wpAny_bind (wpAny_field hos hds (x := .none) rfl (wpAny_bind (wpAny_field hos hds (x := .int (-1) u) rfl (wpAny_pure ?_)))))))
  refine wpAny_bind (slicePart_int ?_)
  show wpAny _ _ (if ((-1 : Int) == 0) = true then _ else _) _ _ s
  rw [if_neg (by decide)]
  refine wpAny_bind (slicePart_none (wpAny_bind (slicePart_none (wpAny_bind (wpAny_pure ?_)))))
  show wpAny _ _ (match sliceAdjust none none (-1) (n : Int) with | (lo, hi) => pure (lo, (-1 : Int), slicePlaces lo hi (-1))) _ _ s
  have e1 : sliceAdjust none none (-1) (n : Int) = ((n : Int) - 1, -1) := by
    unfold sliceAdjust
    rfl
  rw [e1]
  show wpAny _ _ (pure ((n : Int) - 1, (-1 : Int), slicePlaces ((n : Int) - 1) (-1) (-1))) _ _ s
  have e2 : slicePlaces ((n : Int) - 1) (-1) (-1) = n := by
    unfold slicePlaces
    rw [if_neg (by decide)]
    by_cases hn : n = 0
    · subst hn; rfl
    · rw [if_pos (by omega), show (-(-1) : Int) = 1 by decide, Int.ediv_one]
      omega
  rw [e2]
  exact wpAny_pure h
theorem fm_congr {α β : Type} {f g : α → Option β} {l : List α} (h : ∀ x ∈ l, f x = g x) : l.filterMap f = l.filterMap g := by
  induction l with
  | nil => rfl
  | cons a l ih =>
    rw [List.filterMap_cons, List.filterMap_cons, h a (.head _), ih fun x hx => h x (.tail _ hx)]
theorem pick_rev (xs : Array Value) : ((List.range xs.size).filterMap fun (k : Nat) => xs[(((xs.size : Int) - 1) + (k : Int) * (-1)).toNat]?).toArray = xs.toList.reverse.toArray := by
  congr 1
  have e : (List.range xs.size).filterMap (fun (k : Nat) => xs[(((xs.size : Int) - 1) + (k : Int) * (-1)).toNat]?) = (List.range xs.size).filterMap (fun (k : Nat) => xs.toList.reverse[k]?) := by
    refine fm_congr fun k hk => ?_
    have hk := List.mem_range.mp hk
    rw [List.getElem?_reverse (by rw [Array.length_toList]; exact hk), Array.getElem?_toList, Array.length_toList]
    congr 1
    omega
  rw [e]
  have h := PySem.W.krv_all xs.toList.reverse.toArray
  rw [List.size_toArray, List.length_reverse, Array.length_toList] at h
  refine Eq.trans (fm_congr fun k _ => ?_) h
  exact (List.getElem?_toArray ..).symm
theorem getItem_tuple_rev {t sl : Addr} {items : Array Value} {u : Tok} {Q : Value → Shared → Prop} (ht : IsTup s.heap t items) (hs : s.heap.IsSliceOf sl .none .none (.int (-1) u))
    (h : Q (.ref s.heap.objs.size) { s with heap := s.heap.push { cls := .type "tuple", data := .seq items.toList.reverse.toArray } })
    (hsz : items.size ≤ sizeLine := by size_fits) : wpAny (model prog w) A (getItem (.ref t) (.ref sl)) Q E s := by
  have hdrop : sizeOk (.seq items.toList.reverse.toArray) := by
    show items.toList.reverse.toArray.size ≤ sizeLine
    rw [List.size_toArray, List.length_reverse, Array.length_toList]
    omega
  obtain ⟨os, hos, hcs, hds⟩ := id hs
  have hTs : s.TypeIs (.ref sl) "slice" := ⟨os, hos, hcs⟩
  unfold getItem
  try with_reducible refine wpAny_holding ?_
  first | refine wpAny_bind (wpAny_pure ?_) | skip
  refine wpAny_bind (wpAny_sequenceKey ht.typeIs (by decide) ?_)
  refine wpAny_bind (wpAny_callSpecial?_slot (name := Str.ofString "__getitem__") ht.typeIs slot_tuple_getitem
    (wpAny_call_entry slot_tuple_getitem ht.typeIs entry_tuple_getitem ?_ (args_tuple_getitem _ _)))
  show wpAny _ _ (Builtin.Tuple.tupleItemsOf (.ref t) >>= _) _ _ s
  refine wpAny_bind (tupleItemsOf_ ht ?_)
  refine wpAny_bind (wpAny_typeOf hTs ?_)
  rw [if_pos (by decide)]
  refine wpAny_bind (sliceApplied_rev hs ?_)
  show wpAny _ _ (if ((items.size : Int) - 1 == 0 && (-1 : Int) == 1 && items.size == items.size) = true then _ else _) _ _ s
  rw [if_neg (by rw [show ((-1 : Int) == 1) = false by decide, Bool.and_false, Bool.false_and]; exact Bool.false_ne_true), pick_rev items]
  first
    | exact wpAny_bind (m := Builtin.Tuple.tupleExact _) (wpAny_newObj_type (wpAny_pure ⟨_, rfl, wpAny_pure h⟩) hdrop)
    | exact wpAny_bind (m := Builtin.Tuple.tupleExact _) (wpAny_newObj_type (wpAny_bind (wpAny_pure (wpAny_pure ⟨_, rfl, wpAny_pure h⟩))) hdrop)
    | exact wpAny_bind (wpAny_bind (m := Builtin.Tuple.tupleExact _) (wpAny_newObj_type (wpAny_pure (wpAny_pure ⟨_, rfl, wpAny_pure h⟩)) hdrop))
    | exact wpAny_bind (wpAny_bind (m := Builtin.Tuple.tupleExact _) (wpAny_newObj_type (wpAny_pure ⟨_, rfl, wpAny_pure h⟩) hdrop))
end
section
variable {X : Cx}
def tRevT (K : PySem.W.Frag) (te : TE) : TE := fun σ H Q => te σ H fun x H1 => ∃ a xs, x = .ref a ∧ SqT K H1 a xs ∧ ∀ p, H1 p = none → Q (.ref p) (upd H1 p (.tup xs.reverse))
end
theorem relabel_cf2 {env : Env} : ∀ {names : List (Str × NameKind)} {x : Str}, (names.lookup x = some .cell ∨ names.lookup x = some .free) →
    ((names.map fun (n, k) => if (k == NameKind.free && env.scope.kind == .function && env.kindOf n == some .cell) then (n, NameKind.cell) else (n, k)).lookup x = some .cell ∨ (names.map fun (n, k) => if (k == NameKind.free && env.scope.kind == .function && env.kindOf n == some .cell) then (n, NameKind.cell) else (n, k)).lookup x = some .free)
  | [], _, h => by simp at h
  | (n, k) :: r, x, h => by
    have ih := @relabel_cf2 env r x
    rw [List.map_cons]
    cases hx : x == n with
    | true =>
      simp only [List.lookup_cons, hx, Option.some.injEq] at h
      dsimp only
      split
      · exact .inl (by simp only [List.lookup_cons, hx])
      · rcases h with rfl | rfl
        · exact .inl (by simp only [List.lookup_cons, hx])
        · exact .inr (by simp only [List.lookup_cons, hx])
    | false =>
      simp only [List.lookup_cons, hx] at h
      have := ih h
      dsimp only
      split <;> (simp only [List.lookup_cons, hx]; exact this)
theorem lamS_in {X : Cx} {s : Shared} {H : Hp} {sc0 : Scope} {cl : List (Str × Addr)} {C : Addr} {e : Env} {fp : List Addr} {scope : Scope} (h : LamX.lamSB sc0 scope = true) : LamX.LamS (X.blk s H sc0 (compEnvC sc0 cl C e) fp).env.scope scope := by
  obtain ⟨h1, h2, h3, h4, h5⟩ := LamX.lamS_by h
  exact ⟨h1, h2, h3, h4, fun y hy hf => relabel_cf2 (env := e) (h5 y hy hf)⟩
end WK

/-! tuples whose one object is known; dict(a tuple of pairs); tuple * 0 and tuple * 1 -/
namespace WK
open PySem PySem.Spec PyProof.Rows L2
def TupF (B : Hp) (t : Addr) (xs : List V) : Prop := ∃ o : Obj, B t = some (.frz o (.tup xs)) ∧ o.dict = none
theorem TupF.up {B B' : Hp} {t : Addr} {xs : List V} (e : Ex B B') (h : TupF B t xs) : TupF B' t xs := let ⟨o, h1, h2⟩ := h; ⟨o, e _ _ h1, h2⟩
theorem TupF.sqT {K : PySem.W.Frag} {B : Hp} {t : Addr} {xs : List V} (h : TupF B t xs) : SqT K B t xs := let ⟨o, h1, _⟩ := h; .inl (.inr ⟨o, h1⟩)
section
variable {X : Cx}
theorem call_tupleF : CallR X (.type "tuple") (fun xs H Q => ∃ p ys, xs = [.ref p] ∧ SqL X.K H p ys ∧ ∀ (l : Addr) (o : Obj), o.dict = none → H l = none → Q (.ref l) (upd H l (.frz o (.tup ys)))) := by
  intro pins s σ H xs us Q I r h
  obtain ⟨p, ys, rfl, hq, q⟩ := h
  obtain ⟨u, rfl, rx⟩ := vals1 r
  cases rx
  obtain ⟨its, rv, pl, hz⟩ := I.list hq
  have hlen := rv.length
  refine call_tuple_list pl.isList (fun h1 kp => ?_) (by rw [List.size_toArray]; omega)
  have I1 : Inv X pins σ H { s with heap := h1 } := I.kept (t' := s.toks) kp
  have I2 := I1.laid (t' := s.toks) (h' := h1.push { cls := .type "tuple", data := .seq its.toArray }) (a := h1.objs.size) (o := .frz { cls := .type "tuple", data := .seq its.toArray } (.tup ys)) (fun b o e => Heap.get?_push_of_some _ e) (Nat.le_refl _)
    ⟨Heap.get?_push_size _ rfl, hz, its, rv, IsTup.new _ _⟩
  exact ⟨.ref h1.objs.size, _, I2, rfl, q _ _ rfl (I1.hok.fresh (Nat.le_refl _))⟩
def tRevTF (K : PySem.W.Frag) (te : TE) : TE := fun σ H Q => te σ H fun x H1 => ∃ a xs, x = .ref a ∧ SqT K H1 a xs ∧ ∀ (p : Addr) (o : Obj), o.dict = none → H1 p = none → Q (.ref p) (upd H1 p (.frz o (.tup xs.reverse)))
theorem pe_revTF {e : Expr} {te : TE} {k : Nat} {p1 p2 p3 pos : Pos} (he : PE X e te) : PE X (.Subscript e (.Slice none none (some (.UnaryOp .USub (.Constant (.int 1) k p1) p2)) p3) pos) (tRevTF X.K te) := by
  refine ⟨fun pins s σ H Q I h => ?_⟩
  refine Subscript_ (thn (he.run pins s σ H _ I h) fun v s1 ⟨x, H1, I1, r1, q1⟩ => ?_)
  obtain ⟨a, xs, ex, hx, q⟩ := q1
  subst ex
  cases r1
  have hst : PO X (some (.UnaryOp .USub (.Constant (.int 1) k p1) p2)) (tPart (tUn (rU fun i => .int (-i)) (tC (.int 1)))) := po_some (pe_un un_neg pe_int)
  refine wpAny_Slice (thn (po_none.run pins s1 σ H1 (fun o H2 => o = none ∧ H2 = H1) I1 ⟨rfl, rfl⟩) fun vl s2 ⟨l, H2, I2, pl, el, e2⟩ => ?_)
  subst el e2
  refine thn (po_none.run pins s2 σ H2 (fun o H3 => o = none ∧ H3 = H2) I2 ⟨rfl, rfl⟩) fun vu s3 ⟨u, H3, I3, pu, eu, e3⟩ => ?_
  subst eu e3
  refine thn (hst.run pins s3 σ H3 (fun o H4 => o = some (-1) ∧ H4 = H3) I3 ⟨1, rfl, -1, rfl, rfl, rfl⟩) fun vs s4 ⟨o, H4, I4, ps, eo, e4⟩ => ?_
  subst eo e4
  have I5 : Inv X pins σ H4 { s4 with heap := s4.heap.push { cls := .type "slice", data := .fields #[vl, vu, vs] } } := I4.kept (t' := s4.toks) fun b ob q => Heap.get?_push_of_some _ q
  obtain ⟨its, r, ht, hz⟩ := I5.tuple hx
  have hlen := r.length
  show wpAny (model X.prog X.w) X.A (subscriptTail e (.Slice none none (some (.UnaryOp .USub (.Constant (.int 1) k p1) p2)) p3) (.ref a) (.ref s4.heap.objs.size)) (EP X pins σ Q) X.xe { s4 with heap := s4.heap.push { cls := .type "slice", data := .fields #[vl, vu, vs] } }
  cases pl
  cases pu
  cases ps
  refine tail_any (ops := [.ref a, .ref s4.heap.objs.size]) ht.typeIs (PyProof.Rows.slot_tuple_getitem.lookup) ?_ (by with_unfolding_all rfl)
  refine getItem_tuple_rev ht (Heap.IsSliceOf.new _ _ _ _) ?_ (by rw [List.size_toArray]; omega)
  refine ⟨.ref _, _, I5.laid (t' := s4.toks) (o := .frz { cls := .type "tuple", data := .seq its.toArray.toList.reverse.toArray } (.tup xs.reverse)) (fun b ob q => Heap.get?_push_of_some _ q) (Nat.le_refl _) ?_, rfl, q _ _ rfl (I5.hok.fresh (Nat.le_refl _))⟩
  exact ⟨Heap.get?_push_size _ rfl, by rw [List.length_reverse]; exact hz, _, r.reverse, IsTup.new _ _⟩
theorem pe_revTFK (K : PySem.W.Frag) {e : Expr} {te : TE} {k : Nat} {p1 p2 p3 pos : Pos} (he : PE X e te) (hK : X.K = K := by rfl) : PE X (.Subscript e (.Slice none none (some (.UnaryOp .USub (.Constant (.int 1) k p1) p2)) p3) pos) (tRevTF K te) := by
  subst hK
  exact pe_revTF he
theorem vals_ex {s : Shared} {ps : List Addr} {prs : List (Key × Value)} (hl : prs.length = ps.length) (h : ∀ (j : Nat) (q : Key × Value), prs[j]? = some q → ∃ (b : Addr) (u : Value), ps[j]? = some b ∧ IsTup s.heap b #[u, q.2] ∧ keyIs q.1 u = true) :
    ∃ vs : List (Value × Value), vs.length = ps.length ∧ ∀ (j : Nat) (k v : Value), vs[j]? = some (k, v) → ∃ (b : Addr) (y : Key), ps[j]? = some b ∧ prs[j]? = some (y, v) ∧ IsTup s.heap b #[k, v] ∧ keyIs y k = true := by
  induction prs generalizing ps with
  | nil => exact ⟨[], hl, fun j k v e => by simp at e⟩
  | cons p prs ih =>
    cases ps with
    | nil => simp at hl
    | cons b ps =>
      obtain ⟨b', u, e1, e2, e3⟩ := h 0 p rfl
      cases e1
      obtain ⟨vs, hv, hp⟩ := ih (ps := ps) (by simpa using hl) fun j q e => by
        obtain ⟨b, u, z1, z2⟩ := h (j + 1) q (by simpa using e)
        exact ⟨b, u, by simpa using z1, z2⟩
      refine ⟨(u, p.2) :: vs, by rw [List.length_cons, List.length_cons, hv], fun j k v e => ?_⟩
      cases j with
      | zero =>
        cases e
        exact ⟨b, p.1, rfl, rfl, e2, e3⟩
      | succ j =>
        obtain ⟨b2, y, z1, z2, z3⟩ := hp j k v (by simpa using e)
        exact ⟨b2, y, by simpa using z1, by simpa using z2, z3⟩
theorem call_dictTF (hcalm : X.calm = true) : CallR X (.type "dict") (fun xs H Q => ∃ (a : Addr) (ps : List Addr) (kvs : List (Key × V)), xs = [.ref a] ∧ TupF H a (ps.map V.ref) ∧ Paired (fun p (kv : Key × V) => SqT X.K H p [kV kv.1, kv.2]) ps kvs ∧
    ∀ p, H p = none → Q (.ref p) (upd H p (.dK (mergeK [] kvs)))) := by
  intro pins s σ H xs us Q I r h
  obtain ⟨a, ps, kvs, rfl, ⟨o, ho, hdn⟩, hp, q⟩ := h
  obtain ⟨u, rfl, rx⟩ := vals1 r
  cases rx
  obtain ⟨hg, hz, its, rv, o2, ho2, hc, n, hdat⟩ := I.hok a _ ho
  obtain rfl : o = o2 := Option.some.inj (hg.symm.trans ho2)
  obtain rfl := refs_at rv
  rw [List.length_map] at hz
  obtain ⟨prs, rel, hl, hpr⟩ := pairs_of I hp
  obtain ⟨vs, hvl, hvs⟩ := vals_ex hl hpr
  refine PySem.call_dict_pairs (knd := mixKind X.prog X.w) (kvs := prs) (PairArg.tuple a _ (fun j => ps.getD j 0) vs) (I.ok.hd hcalm) ⟨⟨o, n, ho2, hc, hdn, hdat⟩, ?_, fun j k v e => ?_⟩ ⟨by rw [hl, hvl], fun i k v e => ?_⟩ (by rw [hvl]; exact hz) fun h1 tk hd1 kp => ?_
  · rw [List.size_toArray, List.length_map, hvl]
  · obtain ⟨b, y, z1, z2, ⟨o3, w1, w2, w3, w4⟩, z4⟩ := hvs j k v e
    have hb : ps.getD j 0 = b := by rw [List.getD_eq_getElem?_getD, z1]; rfl
    refine ⟨?_, .inl ?_⟩
    · dsimp only
      rw [hb]
      simp [z1]
    · dsimp only
      rw [hb]
      exact ⟨o3, w1, w2, w3, w4⟩
  · obtain ⟨b, y, z1, z2, z3, z4⟩ := hvs i k v e
    exact ⟨y, z2, z4⟩
  · have hm : (s.heap.objs.size == sysModules) = false := beq_eq_false_iff_ne.mpr (Nat.ne_of_gt I.big)
    have hlen : (mergeK [] kvs).length ≤ sizeLine := by
      refine Nat.le_trans (length_mergeK kvs []) ?_
      rw [List.length_nil, Nat.zero_add, rel.length, hl]
      exact hz
    exact ⟨.ref s.heap.objs.size, upd H s.heap.objs.size (.dK (mergeK [] kvs)), I.laid (t' := tk) (fun b o e => kp b o (fun z => nomatch z) e) (Nat.le_refl _) (show ObjOk X.prog X.w _ _ _ (.dK (mergeK [] kvs)) from ⟨hlen, hm, merged [] prs, KV.merge rel .nil, hd1⟩), rfl, q _ (I.hok.fresh (Nat.le_refl _))⟩
end
/-! tuple * 0, tuple * 1 -/
theorem tuple_mul0 (l : Addr) (items : Array Value) (n : Nat) (dd : Option Addr) (sl : Array (Option Value)) (u : Tok) (ne : items.isEmpty = false) :
    Meets (Builtin.«tuple.__mul__» ⟨[.ref l, .int 0 u], []⟩) (fun _ R s => s.heap.get? l = some { cls := .type "tuple", dict := dd, data := .seq items n, slots := sl } ∧
      R (.ok (.ret (Value.ref s.heap.objs.size))) { s with heap := s.heap.push { cls := Value.type "tuple", data := Data.seq #[] }, toks := s.toks }) :=
  .of_wp fun prog w A R s h => by
    obtain ⟨hp, g, d, tk, os⟩ := s
    obtain ⟨hl, h⟩ := h
    have f1 := AutoSeq1.idx_int
    have c1 : (items.isEmpty || (0 : Int) == 1) = false := by rw [ne]; rfl
    wp_walk using wpAny_loadPart' hl
    repeat (first
      | (refine wpAny_ite_false (decide_eq_false (by rw [c1]; exact Bool.false_ne_true)) ?_; wp_walk using wpAny_loadPart' hl)
      | (refine wpAny_ite_true (decide_eq_true rfl) ?_; wp_walk using wpAny_loadPart' hl))
    all_goals exact ⟨_, rfl, h⟩
theorem tuple_mul1 (l : Addr) (items : Array Value) (n : Nat) (dd : Option Addr) (sl : Array (Option Value)) (u : Tok) :
    Meets (Builtin.«tuple.__mul__» ⟨[.ref l, .int 1 u], []⟩) (fun _ R s => s.heap.get? l = some { cls := .type "tuple", dict := dd, data := .seq items n, slots := sl } ∧ R (.ok (.ret (Value.ref l))) s) :=
  .of_wp fun prog w A R s h => by
    obtain ⟨hp, g, d, tk, os⟩ := s
    obtain ⟨hl, h⟩ := h
    have f1 := AutoSeq1.idx_int
    have c1 : (items.isEmpty || (1 : Int) == 1) = true := by rw [show ((1 : Int) == 1) = true by decide, Bool.or_true]
    wp_walk using wpAny_loadPart' hl
    repeat (first
      | (refine wpAny_ite_true (decide_eq_true (by rw [c1])) ?_; wp_walk using wpAny_loadPart' hl)
      | (refine wpAny_ite_true (decide_eq_true rfl) ?_; wp_walk using wpAny_loadPart' hl))
    all_goals exact ⟨_, rfl, h⟩
def rMul01 (K : PySem.W.Frag) : R2 := fun x y H Q => ∃ l xs, x = .ref l ∧ SqT K H l xs ∧ xs ≠ [] ∧ ((y = .int 0 ∧ ∀ p, H p = none → Q (.ref p) (upd H p (.tup []))) ∨ (y = .int 1 ∧ Q (.ref l) H))
section
variable {X : Cx}
theorem op_mul01 : OpR X (binaryOp .Mult) (rMul01 X.K) := by
  intro pins s σ H x y v u Q I rx ry h
  obtain ⟨l, xs, rfl, hT, hne, h⟩ := h
  cases rx
  obtain ⟨its, r, ⟨⟨cls, dd, data, sl⟩, ho, hc, n, hd⟩, hs⟩ := I.tuple hT
  simp only at hc hd
  subst hc hd
  have hi : its.toArray.isEmpty = false := by
    cases r with
    | nil => exact absurd rfl hne
    | cons _ _ => rfl
  rcases h with ⟨rfl, q⟩ | ⟨rfl, q⟩
  · obtain ⟨t, rfl⟩ := ry
    refine wpAny_binaryOp_repeat_ref (T := "tuple") (U := "int") (by decide) ⟨_, ho, rfl⟩ (fun s' => typeIs_int s' 0 t) noFill_tuple_mul F.fills_int_mul F.slot_int_rmul repeat_tuple F.slot_int_index.lookup
      (call_meets F.slot_int_rmul (typeIs_int s 0 t) F.entry_int_rmul (F.args_int_rmul_2 _ _) (int_rmul_tuple 0 t l its.toArray n dd sl)
        ⟨ho, rfl, ⟨_, ho, rfl⟩, call_meets F.slot_tuple_mul ⟨_, ho, rfl⟩ F.entry_tuple_mul (F.args_tuple_mul_2 _ _) (tuple_mul0 l its.toArray n dd sl t hi) ⟨ho, ?_⟩⟩)
    exact ⟨.ref s.heap.objs.size, _, I.laid (t' := s.toks) (o := .tup []) (fun b ob q => Heap.get?_push_of_some _ q) (Nat.le_refl _) ⟨Nat.zero_le _, [], .nil, IsTup.new _ _⟩, rfl, q _ (I.hok.fresh (Nat.le_refl _))⟩
  · obtain ⟨t, rfl⟩ := ry
    refine wpAny_binaryOp_repeat_ref (T := "tuple") (U := "int") (by decide) ⟨_, ho, rfl⟩ (fun s' => typeIs_int s' 1 t) noFill_tuple_mul F.fills_int_mul F.slot_int_rmul repeat_tuple F.slot_int_index.lookup
      (call_meets F.slot_int_rmul (typeIs_int s 1 t) F.entry_int_rmul (F.args_int_rmul_2 _ _) (int_rmul_tuple 1 t l its.toArray n dd sl)
        ⟨ho, rfl, ⟨_, ho, rfl⟩, call_meets F.slot_tuple_mul ⟨_, ho, rfl⟩ F.entry_tuple_mul (F.args_tuple_mul_2 _ _) (tuple_mul1 l its.toArray n dd sl t) ⟨ho, ?_⟩⟩)
    exact ⟨.ref l, H, I, rfl, q⟩
end
section
variable {P : Program} {w : World} {K : PySem.W.Frag} {H B : Hp} {Q : VK} {F : Ent} {L : Led} {a t : Addr} {xs : List V}
theorem v_tupleF (S : Ok F B L H) (h : SqL K H a xs) (k : ∀ p B' H', Ex B B' → TupF B' p xs → Ok F B' L H' → Q (.ref p) H') : CallU P w K (.type "tuple") [.ref a] H Q :=
  .ofK (r := fun K vs H Q => ∃ p ys, vs = [.ref p] ∧ SqL K H p ys ∧ ∀ (l : Addr) (o : Obj), o.dict = none → H l = none → Q (.ref l) (upd H l (.frz o (.tup ys)))) (fun _ _ => call_tupleF)
    ⟨a, xs, rfl, h, fun p o ho hp => k p _ _ (S.exB hp) ⟨o, upd_same, ho⟩ (S.newB hp)⟩
theorem v_dictTF {m : List (Str × Int)} (S : Ok F B L H) (h : TupF B t xs) (hx : DpAll K B xs (m.map fun p => .tuple [.str p.1, .int p.2])) (nd : (m.map (·.1)).Nodup)
    (k : ∀ D H', Ok F B ((D, .dK (m.map fun p => ((.inr p.1 : Key), V.int p.2))) :: L) H' → Q (.ref D) H') : CallU P w K (.type "dict") [.ref t] H Q := by
  obtain ⟨ps, rfl, hp⟩ := pairs_ex hx S.ex
  refine .ofK (r := fun K xs H Q => ∃ (a : Addr) (ps : List Addr) (kvs : List (Key × V)), xs = [.ref a] ∧ TupF H a (ps.map V.ref) ∧ Paired (fun p (kv : Key × V) => SqT K H p [kV kv.1, kv.2]) ps kvs ∧ ∀ p, H p = none → Q (.ref p) (upd H p (.dK (mergeK [] kvs))))
    (fun _ al => call_dictTF al.calm) ⟨t, ps, _, rfl, h.up S.ex, hp, fun D hD => ?_⟩
  rw [merge_new (acc := []) (by
    rw [List.nil_append, List.map_map]
    have : (m.map ((fun kv : Key × V => kv.1) ∘ fun p : Str × Int => ((.inr p.1 : Key), V.int p.2))) = (m.map (·.1)).map Sum.inr := by rw [List.map_map]; rfl
    rw [this]
    exact inr_nodup nd)]
  exact k D _ (S.newL hD)
theorem v_mul0 (S : Ok F B L H) (h : SqT K H a xs) (hne : xs ≠ []) (k : ∀ p B' H', Ex B B' → B' p = some (.tup []) → Ok F B' L H' → Q (.ref p) H') : OpU P w K (binaryOp .Mult) (.ref a) (.int 0) H Q :=
  .ofK (r := rMul01) (fun _ _ => op_mul01) ⟨a, xs, rfl, h, hne, .inl ⟨rfl, fun p hp => k p _ _ (S.exB hp) upd_same (S.newB hp)⟩⟩
theorem v_mul1 (h : SqT K H a xs) (hne : xs ≠ []) (k : Q (.ref a) H) : OpU P w K (binaryOp .Mult) (.ref a) (.int 1) H Q :=
  .ofK (r := rMul01) (fun _ _ => op_mul01) ⟨a, xs, rfl, h, hne, .inr ⟨rfl, k⟩⟩
end
end WK

local macro_rules | `(tactic| kts_caughtN) => `(tactic| first
  | with_reducible assumption
  | ((with_reducible refine' WK.Ex.ap ?kx ?ky); (case kx => with_reducible assumption); (case ky => kts_caughtN))
  | ((with_reducible refine' WK.Ex.sqL ?kx ?ky); (case kx => with_reducible assumption); (case ky => kts_caughtN))
  | ((with_reducible refine' WK.Ex.sqT ?kx ?ky); (case kx => with_reducible assumption); (case ky => kts_caughtN))
  | ((with_reducible refine' L2.Dp.up ?kx ?ky); (case kx => with_reducible assumption); (case ky => kts_caughtN))
  | ((with_reducible refine' WK.Dpl.up ?kx ?ky); (case kx => with_reducible assumption); (case ky => kts_caughtN))
  | ((with_reducible refine' L2.DpAll.up ?kx ?ky); (case kx => with_reducible assumption); (case ky => kts_caughtN)))
local macro_rules | `(tactic| nest_cls) => `(tactic| first
  | ((repeat (first
    | with_reducible exact List.Mem.head _
    | with_reducible refine' List.Mem.tail _ ?_
    | with_reducible exact WK.mF
    | with_reducible exact WK.mFl
    | with_reducible exact WK.mFp
    | with_reducible exact WK.mFn
    | ((with_reducible refine' WK.mFpc ?kz); (case kz => with_reducible assumption))
    | ((with_reducible refine' WK.mFpl ?kz); (case kz => with_reducible assumption))
    | ((with_reducible refine' WK.mFpp ?kz); (case kz => with_reducible assumption))
    | ((with_reducible refine' WK.mFpcE ?kz ?ke); (case kz => with_reducible assumption); (case ke => exact rfl))
    | ((with_reducible refine' WK.mFplE ?kz ?ke); (case kz => with_reducible assumption); (case ke => exact rfl))
    | ((with_reducible refine' WK.mFppE ?kz ?ke); (case kz => with_reducible assumption); (case ke => exact rfl))
    | ((with_reducible refine' WK.mFlot ?kz); (case kz => with_reducible assumption))
    | with_reducible exact WK.mW
    | with_reducible exact WK.mWl
    | with_reducible exact WK.mWp
    | with_reducible exact WK.mWb
    | ((with_reducible refine' WK.mWlotA ?kz); (case kz => with_reducible assumption))
    | ((with_reducible refine' WK.mWpcA ?kz); (case kz => with_reducible assumption))
    | ((with_reducible refine' WK.mWpcH ?kz); (case kz => with_reducible assumption)))); done)
  | mem_news
  | ((with_reducible refine' List.Mem.tail _ ?kz); (case kz => nest_cls)))
local macro_rules | `(tactic| kts_caught) => `(tactic| first
  | with_reducible assumption
  | ((with_reducible refine' WK.Ok.mem ?kx ?ky); (case kx => with_reducible assumption); (case ky => nest_cls))
  | ((with_reducible refine' WK.Ok.sqMem ?kx ?ky); (case kx => with_reducible assumption); (case ky => nest_cls))
  | ((with_reducible refine' WK.Ok.sqStay ?kx ?ky); (case kx => with_reducible assumption); (case ky => kts_caughtN))
  | ((with_reducible refine' WK.Ok.sqB ?kx ?ky); (case kx => with_reducible assumption); (case ky => kts_caughtN))
  | ((with_reducible refine' WK.Ok.tqStay ?kx ?ky); (case kx => with_reducible assumption); (case ky => kts_caughtN))
  | ((with_reducible refine' WK.Ok.tqB ?kx ?ky); (case kx => with_reducible assumption); (case ky => kts_caughtN))
  | ((with_reducible refine' WK.Ok.stay ?kx ?ky); (case kx => with_reducible assumption); (case ky => kts_caughtN))
  | ((with_reducible refine' WK.Ok.dp ?kx ?ky); (case kx => with_reducible assumption); (case ky => kts_caughtN))
  | ((with_reducible refine' WK.Ok.rdMem ?kx ?ky); (case kx => with_reducible assumption); (case ky => nest_cls))
  | ((with_reducible refine' WK.Ok.rdMemF ?kx ?ky); (case kx => with_reducible assumption); (case ky => nest_cls))
  | ((with_reducible refine' WK.Ok.rdStayF ?kx ?ky); (case kx => with_reducible assumption); (case ky => kts_caughtN))
  | ((with_reducible refine' WK.Ok.rdStay ?kx ?ky); (case kx => with_reducible assumption); (case ky => kts_caughtN))
  | ((with_reducible refine' WK.Ok.kept ?kx ?ky); (case kx => with_reducible assumption); (case ky => with_reducible assumption))
  | ((with_reducible refine' WK.Ok.keptRd ?kx ?ky); (case kx => with_reducible assumption); (case ky => with_reducible assumption))
  | ((with_reducible refine' WK.Ok.sqKept ?kx ?ky); (case kx => with_reducible assumption); (case ky => with_reducible assumption))
  | ((with_reducible refine' WK.sqAt ?kx); (case kx => with_reducible assumption))
  | ((with_reducible refine' WK.rdAt ?kx); (case kx => kts_caught)))
local macro_rules | `(tactic| nest_room) => `(tactic| first
  | with_reducible assumption
  | with_reducible exact WK.Ex.refl _
  | ((with_reducible refine' WK.Ex.trans ?kx ?ky); (case ky => with_reducible assumption); (case kx => nest_room)))
local macro_rules | `(tactic| nest_fact) => `(tactic| first
  | with_reducible assumption
  | ((with_reducible refine' L2.Dp.up ?kx ?ky); (case ky => with_reducible assumption); (case kx => nest_room))
  | ((with_reducible refine' L2.DpAll.up ?kx ?ky); (case ky => with_reducible assumption); (case kx => nest_room))
  | ((with_reducible refine' WK.Dpl.up ?kx ?ky); (case ky => with_reducible assumption); (case kx => nest_room))
  | ((with_reducible refine' WK.Ex.ap ?kx ?ky); (case ky => with_reducible assumption); (case kx => nest_room))
  | ((with_reducible refine' WK.Ex.sqL ?kx ?ky); (case ky => with_reducible assumption); (case kx => nest_room))
  | ((with_reducible refine' WK.Ex.sqT ?kx ?ky); (case ky => with_reducible assumption); (case kx => nest_room))
  | nest_room)
local macro_rules | `(tactic| tb_start) => `(tactic| with_reducible refine' WK.r_rSub ?_)
local macro_rules | `(tactic| tb_start) => `(tactic| with_reducible refine' WK.r_rAdd ?_)
local macro_rules | `(tactic| tb_start) => `(tactic| with_reducible refine' WK.r_rU ?_)
local macro_rules | `(tactic| tb_start) => `(tactic| with_reducible refine' WK.v_ipSub ?_)
local macro_rules | `(tactic| tb_start) => `(tactic| with_reducible refine' WK.v_ipAdd ?_)
local macro_rules | `(tactic| tb_start) => `(tactic| ((with_reducible refine' WK.v_get2S ?k1 ?_); (case k1 => kts_caught)))
local macro_rules | `(tactic| tb_start) => `(tactic| with_reducible refine' WK.v_min2 ?_)
local macro_rules | `(tactic| tb_start) => `(tactic| with_reducible refine' WK.v_max2 ?_)
local macro_rules | `(tactic| tb_start) => `(tactic| ((with_reducible refine' WK.v_lenT ?k1 ?_); (case k1 => kts_caught)))
local macro_rules | `(tactic| tb_start) => `(tactic| ((with_reducible refine' WK.v_lenL ?k1 ?_); (case k1 => kts_caught)))
local macro_rules | `(tactic| tb_start) => `(tactic| ((with_reducible refine' WK.v_lenDW ?k1 ?k2 ?_); (case k1 => with_reducible assumption); (case k2 => kts_caughtN)))
local macro_rules | `(tactic| tb_start) => `(tactic| ((with_reducible refine' WK.v_lenDT ?k1 ?k2 ?_); (case k1 => with_reducible assumption); (case k2 => kts_caughtN)))
local macro_rules | `(tactic| tb_start) => `(tactic| ((with_reducible refine' WK.v_lenDL ?k1 ?k2 ?_); (case k1 => with_reducible assumption); (case k2 => kts_caughtN)))
local macro_rules | `(tactic| tb_start) => `(tactic| ((with_reducible refine' WK.v_lenS ?k1 ?_); (case k1 => first | with_reducible assumption | (rw [PySem.sizeLine_eq]; omega) | (simp only [PySem.sizeLine_eq]; omega))))
local macro_rules | `(tactic| tb_start) => `(tactic| with_reducible refine' WK.v_intBl ?_)
local macro_rules | `(tactic| tb_start) => `(tactic| ((with_reducible refine' WK.v_ixDS ?k1 ?k2 ?_); (case k1 => kts_caught); (case k2 => with_reducible first | exact WK.wk_needs | exact WK.wk_steps | exact WK.wk_rates | exact WK.wk_lots | exact WK.wk_pieces | exact WK.wk_lost | exact WK.wk_paid | exact WK.wk_book | exact WK.mk_part | exact WK.mk_state | exact WK.mk_at | exact WK.mk_minutes | exact WK.mk_holds | exact WK.mk_client)))
local macro_rules | `(tactic| tb_start) => `(tactic| ((with_reducible refine' WK.v_ixT ?k1 ?k2 ?_); (case k1 => kts_caught); (case k2 => exact rfl)))
local macro_rules | `(tactic| tb_start) => `(tactic| ((with_reducible refine' WK.v_ixL ?k1 ?k2 ?_); (case k1 => kts_caught); (case k2 => exact rfl)))
local macro_rules | `(tactic| tb_start) => `(tactic| ((with_reducible refine' WK.v_notInDS ?k1 ?_); (case k1 => kts_caught)))
local macro_rules | `(tactic| tb_start) => `(tactic| ((with_reducible refine' WK.v_inDS ?k1 ?_); (case k1 => kts_caught)))
local macro_rules | `(tactic| tb_start) => `(tactic| with_reducible refine' WK.v_inSign ?_)
local macro_rules | `(tactic| tb_start) => `(tactic| with_reducible refine' WK.v_neS ?_)
local macro_rules | `(tactic| tb_start) => `(tactic| with_reducible refine' WK.v_neI ?_)
local macro_rules | `(tactic| tb_start) => `(tactic| with_reducible refine' WK.v_eqS ?_)
local macro_rules | `(tactic| tb_start) => `(tactic| with_reducible refine' WK.v_eqI ?_)
local macro_rules | `(tactic| tb_start) => `(tactic| with_reducible refine' WK.v_ge ?_)
local macro_rules | `(tactic| tb_start) => `(tactic| with_reducible refine' WK.v_gt ?_)
local macro_rules | `(tactic| tb_start) => `(tactic| with_reducible refine' WK.v_le ?_)
local macro_rules | `(tactic| tb_start) => `(tactic| with_reducible refine' WK.v_lt ?_)
local macro_rules | `(tactic| tb_start) => `(tactic| ((with_reducible refine' WK.v_pow ?k1 ?_); (case k1 => exact ⟨by decide, by decide, by decide⟩)))
local macro_rules | `(tactic| tb_start) => `(tactic| ((with_reducible refine' WK.v_fdiv ?k1 ?_); (case k1 => first | exact ⟨by decide, by decide⟩ | exact ⟨by omega, by omega⟩ | exact ⟨by simp only [List.length_map]; omega, by simp only [List.length_map]; omega⟩)))
local macro_rules | `(tactic| tb_start) => `(tactic| ((with_reducible refine' WK.v_mod ?k1 ?_); (case k1 => first | decide | omega | (simp only [List.length_map, List.length_append, List.length_cons, List.length_nil, List.length_set]; omega))))
local macro_rules | `(tactic| tb_start) => `(tactic| ((with_reducible refine' WK.v_mul ?k1 ?_); (case k1 => first | exact Or.inr ⟨by decide, by decide⟩ | exact Or.inl ⟨by decide, by decide⟩ | exact Or.inr ⟨by omega, by omega⟩ | exact Or.inl ⟨by omega, by omega⟩)))
local macro_rules | `(tactic| tb_start) => `(tactic| with_reducible refine' WK.v_sub ?_)
local macro_rules | `(tactic| tb_start) => `(tactic| with_reducible refine' WK.v_add ?_)
local macro_rules | `(tactic| tb_start) => `(tactic| with_reducible refine' WK.r_par33 ?_)
local macro_rules | `(tactic| tb_start) => `(tactic| with_reducible refine' WK.r_par2 ?_)
local macro_rules | `(tactic| tb_start) => `(tactic| with_reducible refine' WK.r_gnil ?_)
local macro_rules | `(tactic| tb_start) => `(tactic| with_reducible refine' WK.r_gcons ?_)
local macro_rules | `(tactic| tb_start) => `(tactic| ((with_reducible refine' WK.afdQ ?k1 ?k2 ?k3 ?k4 ?_); (case k1 => kts_caught); (case k2 => with_reducible assumption); (case k3 => with_reducible assumption); (case k4 => exact rfl)))
local macro_rules | `(tactic| tb_start) => `(tactic| with_reducible refine' WK.strQ ?_)
local macro_rules | `(tactic| tb_start) => `(tactic| with_reducible refine' WK.r_in ?_)
local macro_rules | `(tactic| tb_start) => `(tactic| ((with_reducible refine' WK.mthXQ ?k1 ?k2 ?_); (case k1 => kts_caught); (case k2 => exact rfl)))
local macro_rules | `(tactic| tb_start) => `(tactic| ((with_reducible refine' WK.mthQ ?k1 ?k2 ?_); (case k1 => kts_caught); (case k2 => exact rfl)))
local macro_rules | `(tactic| tb_start) => `(tactic| ((with_reducible refine' WK.bmD ?k1 ?_); (case k1 => kts_caught)))
local macro_rules | `(tactic| tb_start) => `(tactic| ((with_reducible refine' WK.bmL ?k1 ?_); (case k1 => kts_caught)))
local macro_rules | `(tactic| tb_start) => `(tactic| with_reducible refine' WK.bmS ?_)
local macro_rules | `(tactic| tb_start) => `(tactic| ((with_reducible refine' WK.fldQ ?k1 ?k2 ?k3 ?k4 ?_); (case k1 => kts_caught); (case k2 => with_reducible assumption); (case k3 => with_reducible assumption); (case k4 => exact rfl)))
local macro_rules | `(tactic| tb_start) => `(tactic| with_reducible refine' WK.r_bl ?_)
local macro_rules | `(tactic| tb_start) => `(tactic| ((with_reducible show ite _ _ _); first
  | (with_reducible refine' WK.ifTT ?_)
  | (with_reducible refine' WK.ifFF ?_)
  | (with_reducible refine' WK.ifNT ?_)
  | (with_reducible refine' WK.ifNF ?_)
  | ((with_reducible refine' WK.ifdT ?k1 ?_); (case k1 => first | with_reducible assumption | omega | (simp only [List.length_map, List.length_append, List.length_cons, List.length_nil, List.length_set]; omega)))
  | ((with_reducible refine' WK.ifdF ?k1 ?_); (case k1 => first | with_reducible assumption | omega | (simp only [List.length_map, List.length_append, List.length_cons, List.length_nil, List.length_set]; omega)))
  | ((with_reducible refine' WK.ifndT ?k1 ?_); (case k1 => first | with_reducible assumption | omega | (simp only [List.length_map, List.length_append, List.length_cons, List.length_nil, List.length_set]; omega)))
  | ((with_reducible refine' WK.ifndF ?k1 ?_); (case k1 => first | with_reducible assumption | omega | (simp only [List.length_map, List.length_append, List.length_cons, List.length_nil, List.length_set]; omega)))))
local macro_rules | `(tactic| tb_start) => `(tactic| with_reducible refine' WK.r_rzT ?_)
local macro_rules | `(tactic| tb_start) => `(tactic| with_reducible refine' WK.r_rzK ?_)
local macro_rules | `(tactic| tb_start) => `(tactic| with_reducible refine' WK.r_augS ?_)
local macro_rules | `(tactic| tb_start) => `(tactic| ((with_reducible refine' WK.r_aug ?hh ?_); (case hh => exact rfl)))
local macro_rules | `(tactic| tb_start) => `(tactic| with_reducible refine' WK.r_par3 ?_)
local macro_rules | `(tactic| tb_start) => `(tactic| with_reducible refine' WK.r_par ?_)
local macro_rules | `(tactic| tb_start) => `(tactic| with_reducible refine' WK.r_afld ?_)
local macro_rules | `(tactic| tb_start) => `(tactic| with_reducible refine' WK.r_sfld ?_)
local macro_rules | `(tactic| tb_start) => `(tactic| with_reducible refine' WK.r_for ?_)
local macro_rules | `(tactic| tb_start) => `(tactic| with_reducible refine' WK.r_retN ?_)
local macro_rules | `(tactic| tb_start) => `(tactic| with_reducible refine' WK.r_pnil ?_)
local macro_rules | `(tactic| tb_start) => `(tactic| with_reducible refine' WK.r_pcons ?_)
local macro_rules | `(tactic| tb_start) => `(tactic| with_reducible refine' WK.r_enumV ?_)
local macro_rules | `(tactic| tb_start) => `(tactic| with_reducible refine' WK.r_str ?_)
local macro_rules | `(tactic| tb_start) => `(tactic| with_reducible refine' WK.r_values ?_)
local macro_rules | `(tactic| tb_start) => `(tactic| with_reducible refine' WK.r_keys ?_)
local macro_rules | `(tactic| tb_start) => `(tactic| with_reducible refine' WK.r_items ?_)
local macro_rules | `(tactic| tb_start) => `(tactic| with_reducible refine' WK.r_val ?_)
local macro_rules | `(tactic| tb_start) => `(tactic| with_reducible refine' WK.r_rng1 ?_)
local macro_rules | `(tactic| tb_start) => `(tactic| with_reducible refine' WK.r_part ?_)
local macro_rules | `(tactic| tb_start) => `(tactic| with_reducible refine' WK.r_nopart ?_)
local macro_rules | `(tactic| tb_start) => `(tactic| with_reducible refine' WK.r_yes ?_)
local macro_rules | `(tactic| tb_start) => `(tactic| with_reducible refine' WK.r_not ?_)
local macro_rules | `(tactic| tb_start) => `(tactic| with_reducible refine' WK.r_or ?_)
local macro_rules | `(tactic| tb_start) => `(tactic| with_reducible refine' WK.r_and ?_)
local macro_rules | `(tactic| tb_start) => `(tactic| with_reducible refine' WK.r_test ?_)
local macro_rules | `(tactic| tb_start) => `(tactic| with_reducible refine' WK.r_B ?_)
local macro_rules | `(tactic| tb_start) => `(tactic| with_reducible refine' WK.r_mthX ?_)
local macro_rules | `(tactic| tb_start) => `(tactic| with_reducible refine' WK.r_fnX ?_)
local macro_rules | `(tactic| tb_start) => `(tactic| with_reducible refine' WK.r_chain ?_)
local macro_rules | `(tactic| tb_start) => `(tactic| with_reducible refine' WK.r_revL ?_)
local macro_rules | `(tactic| tb_start) => `(tactic| with_reducible refine' WK.r_frzA ?_)
local macro_rules | `(tactic| tb_start) => `(tactic| with_reducible refine' WK.r_sumVals ?_)
local macro_rules | `(tactic| tb_start) => `(tactic| with_reducible refine' WK.r_sci ?_)
local macro_rules | `(tactic| tb_start) => `(tactic| with_reducible refine' WK.r_dc ?_)
local macro_rules | `(tactic| tb_start) => `(tactic| with_reducible refine' WK.r_lc ?_)
local macro_rules | `(tactic| tb_start) => `(tactic| with_reducible refine' WK.r_bm0 ?_)
local macro_rules | `(tactic| tb_start) => `(tactic| with_reducible refine' WK.r_bm ?_)
local macro_rules | `(tactic| tb_start) => `(tactic| with_reducible refine' WK.r_mk ?_)
local macro_rules | `(tactic| tb_start) => `(tactic| with_reducible refine' WK.r_notV ?_)
local macro_rules | `(tactic| tb_start) => `(tactic| with_reducible refine' WK.r_orV ?_)
local macro_rules | `(tactic| tb_start) => `(tactic| with_reducible refine' WK.r_andV ?_)
local macro_rules | `(tactic| tb_start) => `(tactic| with_reducible refine' WK.r_if ?_)
local macro_rules | `(tactic| tb_start) => `(tactic| with_reducible refine' WK.r_sl ?_)
local macro_rules | `(tactic| tb_start) => `(tactic| with_reducible refine' WK.r_un ?_)
local macro_rules | `(tactic| tb_start) => `(tactic| with_reducible refine' WK.r_tup ?_)
local macro_rules | `(tactic| tb_start) => `(tactic| with_reducible refine' WK.r_lst ?_)
local macro_rules | `(tactic| tb_start) => `(tactic| with_reducible refine' WK.r_mth ?_)
local macro_rules | `(tactic| tb_start) => `(tactic| with_reducible refine' WK.r_cb ?_)
local macro_rules | `(tactic| tb_start) => `(tactic| with_reducible refine' WK.r_fld ?_)
local macro_rules | `(tactic| tb_start) => `(tactic| with_reducible refine' WK.r_fn ?_)
local macro_rules | `(tactic| tb_start) => `(tactic| with_reducible refine' WK.r_gatt ?_)
local macro_rules | `(tactic| tb_start) => `(tactic| with_reducible refine' WK.r_gsub ?_)
local macro_rules | `(tactic| tb_start) => `(tactic| ((with_reducible show L2.gName _ _ _ _ _); (apply WK.r_nameS); (case h => repeat (first | exact WK.SlotSet.zero | apply WK.SlotSet.succ))))
local macro_rules | `(tactic| tb_start) => `(tactic| with_reducible refine' WK.r_drop ?_)
local macro_rules | `(tactic| tb_start) => `(tactic| with_reducible refine' WK.r_ret ?_)
local macro_rules | `(tactic| tb_start) => `(tactic| with_reducible refine' WK.r_next ?_)
local macro_rules | `(tactic| tb_start) => `(tactic| with_reducible refine' WK.r_ifS ?_)
local macro_rules | `(tactic| tb_start) => `(tactic| with_reducible refine' WK.r_asg ?_)
local macro_rules | `(tactic| tb_start) => `(tactic| with_reducible refine' WK.r_seq ?_)
local macro_rules | `(tactic| tb_start) => `(tactic| with_reducible refine' WK.r_nil ?_)
local macro_rules | `(tactic| tb_start) => `(tactic| with_reducible refine' WK.r_cons ?_)
local macro_rules | `(tactic| tb_start) => `(tactic| with_reducible refine' WK.r_op ?_)
local macro_rules | `(tactic| tb_start) => `(tactic| with_reducible refine' WK.r_c ?_)
local macro_rules | `(tactic| tb_start) => `(tactic| ((with_reducible refine' WK.r_var ?hh ?_); (case hh => exact rfl)))

namespace LW
open PySem PySem.Spec PyProof.Rows L2 WK
def topS (i : Nat) : Stmt := PySem.Challenge.pw_partkin_k12_lacks_take_nothing.main.body.getD i (.Pass ⟨0, 0, 0, 0⟩)
abbrev s__law_mix : Stmt := topS 47
abbrev s__law_next : Stmt := topS 48
theorem sc__law_mix : FnScope ["_law_script", "_law_seed", "_law_mixed", "_law_cell"] ["_law_script", "_law_seed"] (defScope s__law_mix) := ⟨rfl, rfl, rfl, by decide +kernel, rfl, by decide +kernel, by decide +kernel⟩
theorem sc__law_next : FnScope ["_law_h", "_law_many", "_law_cell"] ["_law_h", "_law_many"] (defScope s__law_next) := ⟨rfl, rfl, rfl, by decide +kernel, rfl, by decide +kernel, by decide +kernel⟩
/-- the state that is drawn from -/
abbrev hL (p q : Addr) (m : Int) (cs : List Int) (k : Int) : Led := [(p, .lst [.int m, .ref q, .int k]), (q, .lst (cs.map V.int))]
section
variable {P : Program} {w : World} {K : PySem.W.Frag} {mg : Str → Option Value} {base : Heap}
def spMix (K : PySem.W.Frag) : Sp := fun vs H Q _ => ∃ (B : Hp) (a : Addr) (ns : List Int) (seed : Int), vs = [.ref a, .int seed] ∧ Ex B H ∧ SqL K B a (ns.map V.int) ∧ ns.length ≤ 63 ∧ 0 ≤ seed ∧ seed < 2147483647 ∧
  ∀ (m : Int) (p q : Addr) (B' H' : Hp), 0 ≤ m → m < 2147483647 → Ok ⟨B, H, []⟩ B' (hL p q m ns 0) H' → Q (.ref p) H'
theorem ok__law_mix {f : Addr} {fd : FuncData} (F : Fun K "_law_mix" "_law_mix" s__law_mix f fd) (n_list : mg "list" = none) : FnOk P w K mg base CX0 1 f fd ["_law_script", "_law_seed"] (spMix K) := by
  refine F.ok sc__law_mix (fun vs H Q E h => ?_) (fun cdv A outer s H vs Q E hr h => ?_)
  · obtain ⟨B, a, ns, seed, rfl, _⟩ := h
    rfl
  · obtain ⟨B, a, ns, seed, rfl, ex, hs, hl, h0, h1, k⟩ := h
    have S := Ok.start0 ex
    refine with_al (P := P) (w := w) (K := K) hr (fun al => ?_)
    refine ⟨_, (pss_cons (ps_asg (pv 1) (pg_name (i := 2) sc__law_mix.nd rfl (by first | exact Or.inl rfl | exact Or.inr rfl))) (pss_cons (ps_for PassesOwn.never rfl (pi_val al (pv 0)) (pg_name (i := 3) sc__law_mix.nd rfl (by first | exact Or.inl rfl | exact Or.inr rfl)) (pss_one (ps_asg (pe_op (opU al) (pe_op (opU al) (pe_op (opU al) (pe_op (opU al) (pv 2) pe_int) (pe_op (opU al) (pv 3) pe_int)) pe_int) pe_int) (pg_name (i := 2) sc__law_mix.nd rfl (by first | exact Or.inl rfl | exact Or.inr rfl))))) (pss_one (ps_ret (pe_lst (pa_cons (pv 2) (pa_cons (pe_callTy (callU al) (by rfl) n_list b_list (pa_cons (pv 0) pa_nil)) (pa_cons pe_int pa_nil)))))))), ?_⟩
    repeat tb_start
    refine forL (S.sqB hs) (fun i σ H' => ∃ (m : Int) (c : Option V), σ = [some (.ref a), some (.int seed), some (.int m), c] ∧ 0 ≤ m ∧ m < 2147483647 ∧ Ok ⟨B, H, []⟩ B [] H') ?_ ?_ ?_ ?_
    · rintro i σ H1 _ ⟨m, c, rfl, _, _, S1⟩
      exact S1.sqB hs
    · exact ⟨seed, none, rfl, h0, h1, S⟩
    · rintro i x σ H1 hx ⟨m, c, rfl, hm0, hm1, S1⟩
      obtain ⟨z, rfl⟩ : ∃ z, x = V.int z := by
        rw [List.getElem?_map] at hx
        cases e : ns[i]? with
        | none => rw [e] at hx; cases hx
        | some z => rw [e] at hx; exact ⟨z, (Option.some.inj hx).symm⟩
      repeat tb_start
      exact ⟨_, _, rfl, Int.emod_nonneg _ (by decide), Int.emod_lt_of_pos _ (by decide), S1⟩
    · rintro σ H1 ⟨m, c, rfl, hm0, hm1, S1⟩
      repeat tb_start
      refine v_listOf S1 (.inl (S1.sqB hs)) fun q H2 S2 => ?_
      repeat tb_start
      refine new_lst S2 (by simp [sizeLine_eq]) fun p H3 S3 => ?_
      exact k m p q _ _ hm0 hm1 S3
/-- the state behind a draw -/
structure HS (cs : List Int) (kk : Int) : Prop where
  len : cs.length ≤ 63
  pl : 0 ≤ kk
theorem mod_ix (n : Nat) (k : Int) : ∃ j : Nat, j < max 1 n ∧ (k % if (n : Int) > 1 then (n : Int) else 1) = (j : Int) := by
  have h : ∃ m : Nat, m = max 1 n ∧ (if (n : Int) > 1 then (n : Int) else 1) = (m : Int) := by
    refine ⟨max 1 n, rfl, ?_⟩
    split <;> omega
  obtain ⟨m, hm, e⟩ := h
  rw [e]
  have h0 : 0 ≤ k % (m : Int) := Int.emod_nonneg _ (by omega)
  have h1 : k % (m : Int) < m := Int.emod_lt_of_pos _ (by omega)
  exact ⟨(k % (m : Int)).toNat, by omega, by omega⟩
theorem item_of (cs : List Int) (j : Nat) (h : j < cs.length) : atI (List.map V.int cs) (j : Int) = some (.int (cs.getD j 0)) := by
  refine atI_nat ?_
  rw [List.getElem?_map, List.getD_eq_getElem?_getD, List.getElem?_eq_getElem h]
  rfl
def spNext : Sp := fun vs H Q _ => ∃ (B : Hp) (p q : Addr) (m : Int) (cs : List Int) (kk many : Int), vs = [.ref p, .int many] ∧ Ok ⟨B, H, [p, q]⟩ B (hL p q m cs kk) H ∧ HS cs kk ∧ 0 < many ∧ many < 1073741824 ∧
  ∀ (r m' : Int) (cs' : List Int) (kk' : Int) (H' : Hp), 0 ≤ r → r < many → HS cs' kk' → Ok ⟨B, H, [p, q]⟩ B (hL p q m' cs' kk') H' → Q (.int r) H'
theorem ok__law_next {f : Addr} {fd : FuncData} (F : Fun K "_law_next" "_law_next" s__law_next f fd) (n_max : mg "max" = none) (n_len : mg "len" = none) : FnOk P w K mg base CX0 1 f fd ["_law_h", "_law_many"] spNext := by
  refine F.ok sc__law_next (fun vs H Q E h => ?_) (fun cdv A outer s H vs Q E hr h => ?_)
  · obtain ⟨B, p, q, m, cs, kk, many, rfl, _⟩ := h
    rfl
  · obtain ⟨B, p, q, m, cs, kk, many, rfl, S, hS, h0, h1, k⟩ := h
    refine with_al (P := P) (w := w) (K := K) hr (fun al => ?_)
    refine ⟨_, (pss_cons (ps_asg (pe_ix (ixU al) (pe_op (opU al) (pe_ix (ixU al) (pv 0) pe_int (fun _ _ => rfl)) (pe_lst (pa_cons pe_int pa_nil))) (pe_op (opU al) (pe_ix (ixU al) (pv 0) pe_int (fun _ _ => rfl)) (pe_callB (callU al) (by rfl) n_max b_max (pa_cons pe_int (pa_cons (pe_callB (callU al) (by rfl) n_len b_len (pa_cons (pe_ix (ixU al) (pv 0) pe_int (fun _ _ => rfl)) pa_nil)) pa_nil)))) (fun _ _ => rfl)) (pg_name (i := 2) sc__law_next.nd rfl (by first | exact Or.inl rfl | exact Or.inr rfl))) (pss_cons (ps_if (pt_cmpR (opU al) (pv 2) (pe_op (opU al) pe_int pe_int) (nomark _)) (pss_cons (ps_asg (pe_op (opU al) (pv 2) (pv 1)) (pg_sub (pe_ix (ixU al) (pv 0) pe_int (fun _ _ => rfl)) (pe_op (opU al) (pe_ix (ixU al) (pv 0) pe_int (fun _ _ => rfl)) (pe_callB (callU al) (by rfl) n_len b_len (pa_cons (pe_ix (ixU al) (pv 0) pe_int (fun _ _ => rfl)) pa_nil))) (setU al))) (pss_one (ps_ret (pe_op (opU al) (pv 2) (pv 1))))) pss_nil) (pss_cons (ps_asg (pe_op (opU al) (pe_op (opU al) (pe_op (opU al) (pe_op (opU al) (pe_ix (ixU al) (pv 0) pe_int (fun _ _ => rfl)) pe_int) (pe_op (opU al) (pv 2) pe_int)) pe_int) pe_int) (pg_sub (pv 0) pe_int (setU al))) (pss_cons (ps_asg (pe_op (opU al) (pe_ix (ixU al) (pv 0) pe_int (fun _ _ => rfl)) pe_int) (pg_sub (pv 0) pe_int (setU al))) (pss_one (ps_ret (pe_op (opU al) (pe_op (opU al) (pe_ix (ixU al) (pv 0) pe_int (fun _ _ => rfl)) pe_int) (pv 1)))))))), ?_⟩
    repeat tb_start
    refine new_lst S (by decide) fun z H1 S1 => ?_
    repeat tb_start
    refine v_cat S1 (by kts_caught) (by kts_caught) ?_ fun z2 H2 S2 => ?_
    · have := hS.len
      rw [List.length_map, sizeLine_eq]
      show cs.length + 1 ≤ _
      omega
    repeat tb_start
    obtain ⟨c, hc, hc0⟩ : ∃ c : Int, atI (List.map V.int cs ++ [V.int 0]) (kk % if ((List.map V.int cs).length : Int) > 1 then ((List.map V.int cs).length : Int) else 1) = some (.int c) ∧ (cs = [] → c = 0) := by
      obtain ⟨j, hj, e⟩ := mod_ix cs.length kk
      refine ⟨(cs ++ [0]).getD j 0, ?_, fun z => ?_⟩
      · rw [List.length_map, e]
        have := item_of (cs ++ [0]) j (by simp; omega)
        rw [List.map_append] at this
        exact this
      · subst z
        have : j = 0 := by have := hj; simp at this; omega
        subst this
        rfl
    refine v_ixL (by kts_caught) hc ?_
    have S3 : Ok ⟨B, H, [p, q]⟩ B (hL p q m cs kk) H2 := S2.drop.drop
    repeat tb_start
    refine ifd (fun hbig => ?_) (fun hbig => ?_)
    · have hne : 0 < cs.length := by
        cases cs with
        | nil => rw [hc0 rfl] at hbig; exact absurd hbig (by decide)
        | cons _ _ => simp
      repeat tb_start
      obtain ⟨j, hj, ej⟩ : ∃ j : Nat, j < cs.length ∧ kk % ((List.map V.int cs).length : Int) = (j : Int) := by
        have h0 : 0 ≤ kk % (cs.length : Int) := Int.emod_nonneg _ (by omega)
        have h1 : kk % (cs.length : Int) < cs.length := Int.emod_lt_of_pos _ (by omega)
        exact ⟨(kk % (cs.length : Int)).toNat, by omega, by rw [List.length_map]; omega⟩
      refine v_setLN 1 S3 rfl (ixN_of ej (by rw [List.length_map]; exact hj)) fun H4 S4 => ?_
      repeat tb_start
      rw [← List.map_set] at S4
      exact k _ m (cs.set j (c / many)) kk _ (Int.emod_nonneg _ (by omega)) (Int.emod_lt_of_pos _ h0) ⟨by rw [List.length_set]; exact hS.len, hS.pl⟩ S4
    · repeat tb_start
      refine v_setLN 0 S3 rfl rfl fun H4 S4 => ?_
      repeat tb_start
      refine v_setLN 0 S4 rfl rfl fun H5 S5 => ?_
      repeat tb_start
      exact k _ _ cs (kk + 1) _ (Int.emod_nonneg _ (by omega)) (Int.emod_lt_of_pos _ h0) ⟨hS.len, by have := hS.pl; omega⟩ S5
end
end LW

namespace LW
open PySem PySem.Spec PyProof.Rows L2 WK PM
abbrev s_is_name : Stmt := topS 22
theorem sc_is_name : FnScope ["word", "sign"] ["word"] (defScope s_is_name) := ⟨rfl, rfl, rfl, by decide +kernel, rfl, by decide +kernel, by decide +kernel⟩
section
variable {P : Program} {w : World} {K : PySem.W.Frag} {mg : Str → Option Value} {base : Heap}
def spIsName : Sp := fun vs H Q _ => ∃ (B : Hp) (z : Str), vs = [.str z] ∧ Ex B H ∧ z.length ≤ 1000 ∧ ∀ B' H', Ok ⟨B, H, []⟩ B' [] H' → Q (.bl (isNameM z)) H'
theorem ok_is_name {f : Addr} {fd : FuncData} (F : Fun K "is_name" "is_name" s_is_name f fd) (n_len : mg "len" = none) (n_all : mg "all" = none) (c_MOST_SIGNS : GlI mg "MOST_SIGNS" 8) (c_LETTERS : GlS mg "LETTERS" letters) : FnOk P w K mg base CX0 1 f fd ["word"] spIsName := by
  refine F.ok sc_is_name (fun vs H Q E h => ?_) (fun cdv A outer s H vs Q E hr h => ?_)
  · obtain ⟨B, z, rfl, _⟩ := h
    rfl
  · obtain ⟨B, z, rfl, ex, hl, k⟩ := h
    have S := Ok.start0 ex
    refine with_al (P := P) (w := w) (K := K) hr (fun al => ?_)
    refine ⟨_, (pss_one (ps_ret (pe_and (pe_chain (opU al) (opU al) pe_int (pe_callB (callU al) (by rfl) n_len b_len (pa_cons (pv 0) pa_nil)) (pe_gi c_MOST_SIGNS rfl)) (pe_one (pe_callB (callU al) (by rfl) n_all b_all (pa_cons (pe_lc (own := [("sign", 1)]) al.calm sc_is_name.nd (pi_str (pv 0)) (blkOk_by (own := [("sign", 1)]) (N := ["word", "sign"]) (sc := (defScope s_is_name)) (by decide +kernel)) (fun _ _ _ _ _ => (pg_name (i := 1) sc_is_name.nd rfl (by first | exact Or.inl rfl | exact Or.inr rfl))) (fun _ _ _ _ _ => pts_nil) (fun _ _ _ _ _ => (pe_cmpR (opU al) (pv 1) (pe_gs c_LETTERS rfl) rfl))) pa_nil)))))), ?_⟩
    repeat tb_start
    refine ifd (fun c1 => ?_) (fun c1 => ?_)
    · repeat tb_start
      refine ifd (fun c2 => ?_) (fun c2 => ?_)
      · repeat tb_start
        have hz : z.cps.toList.length ≤ 1000 := hl
        refine lcD src_str S (fun i acc B' L' => L' = [] ∧ acc = (z.cps.toList.take i).map (fun c => V.bl (decide (c ∈ letters.cps.toList))) ∧ i ≤ 1000) ⟨rfl, rfl, by omega⟩ (fun _ _ _ _ _ _ _ => True.intro) ?_ ?_
        · rintro i c x acc B0 B1 L D H1 hc ⟨rfl, rfl, hi⟩ e S1 rfl
          repeat tb_start
          refine ⟨rfl, ?_⟩
          repeat tb_start
          have hi' : i < z.cps.toList.length := (List.getElem?_eq_some_iff.mp hc).1
          refine Acc.mk S1 (by rw [sizeLine_eq, List.length_map, List.length_take]; omega) ⟨rfl, ?_, by omega⟩
          rw [List.take_add_one, hc, List.map_append]
          rfl
        · rintro acc B1 L D H1 ⟨rfl, rfl, hi⟩ S1
          repeat tb_start
          refine v_all (bs := z.cps.toList.map fun c => decide (c ∈ letters.cps.toList)) (by rw [List.map_map]; rw [List.take_length] at S1; exact S1.sqMem (.head _)) ?_
          have e : isNameM z = (z.cps.toList.map fun c => decide (c ∈ letters.cps.toList)).all id := by
            unfold isNameM
            rw [decide_eq_true c1, decide_eq_true c2, Bool.true_and, Bool.true_and]
          repeat tb_start
          rw [← e]
          exact k _ _ S1.drop
      · repeat tb_start
        have e : isNameM z = false := by
          unfold isNameM
          rw [decide_eq_false c2, Bool.false_and, Bool.and_false]
        have q := k _ _ S
        rw [e] at q
        exact q
    · repeat tb_start
      have e : isNameM z = false := by
        unfold isNameM
        rw [decide_eq_false c1, Bool.false_and]
      have q := k _ _ S
      rw [e] at q
      exact q
end
end LW

namespace LW
open PySem PySem.Spec PyProof.Rows L2 WK PM
abbrev s_Parts_is_row : Stmt := inClass (topS 23) 1
theorem sc_Parts_is_row : FnScope ["self", "row", "name", "needs", "steps", "lot", "lead", "others", "part", "many", "machine", "minutes"] ["self", "row"] (defScope s_Parts_is_row) := ⟨rfl, rfl, rfl, by decide +kernel, rfl, by decide +kernel, by decide +kernel⟩
def spIsRow (K : PySem.W.Frag) (CP : Addr) : Sp := fun vs H Q _ => ∃ (B : Hp) (p dx a l : Addr) (v : V) (kvs : List (Key × V)) (names : List Str) (r : PRow), vs = [.ref p, v] ∧ Ex B H ∧ H p = some (.ins CP dx (fldsP a l)) ∧ Rd H a (.dK kvs) ∧ kvs.map (·.1) = names.map Sum.inr ∧
  Dp K B v (encRow r) ∧ GoodRow names r ∧ names.length ≤ 12 ∧ ∀ B' H', Ok ⟨B, H, []⟩ B' [] H' → Q (.bl true) H'
section
variable {P : Program} {w : World} {K : PySem.W.Frag} {mg : Str → Option Value} {base : Heap}
theorem ok_is_row {f CP : Addr} {fd : FuncData} (F : Fun K "is_row" "Parts.is_row" s_Parts_is_row f fd) (G_is_name : FnG P w K mg base 1 "is_name" ["word"] spIsName) (clP : Cls K CP) (nRows : NoAttr K CP "rows")
    (n_len : mg "len" = none) (n_all : mg "all" = none) (n_set : mg "set" = none) (c_MOST_LOT : GlI mg "MOST_LOT" 99) (c_MOST_LEAD : GlI mg "MOST_LEAD" 30) (c_MOST_NEED : GlI mg "MOST_NEED" 9) (c_MOST_STEPS : GlI mg "MOST_STEPS" 5)
    (c_MACHINES : GlI mg "MACHINES" 6) (c_MOST_MINUTES : GlI mg "MOST_MINUTES" 99) : FnOk P w K mg base CX0 2 f fd ["self", "row"] (spIsRow K CP) := by
  refine F.ok sc_Parts_is_row (fun vs H Q E h => ?_) (fun cdv A outer s H vs Q E hr h => ?_)
  · obtain ⟨B, p, dx, a, l, v, kvs, names, r, rfl, _⟩ := h
    rfl
  · obtain ⟨B, p, dx, a, l, v, kvs, names, r, rfl, ex, hp, ha, hk, hv, G, hn, k⟩ := h
    have S := Ok.start0 ex
    refine with_al (P := P) (w := w) (K := K) hr (fun al => ?_)
    refine ⟨_, (pss_cons (ps_asg (pv 1) (pg_tupU (n := 5) K (pgs_cons (pg_name (i := 2) sc_Parts_is_row.nd rfl (by first | exact Or.inl rfl | exact Or.inr rfl)) (pgs_cons (pg_name (i := 3) sc_Parts_is_row.nd rfl (by first | exact Or.inl rfl | exact Or.inr rfl)) (pgs_cons (pg_name (i := 4) sc_Parts_is_row.nd rfl (by first | exact Or.inl rfl | exact Or.inr rfl)) (pgs_cons (pg_name (i := 5) sc_Parts_is_row.nd rfl (by first | exact Or.inl rfl | exact Or.inr rfl)) (pgs_cons (pg_name (i := 6) sc_Parts_is_row.nd rfl (by first | exact Or.inl rfl | exact Or.inr rfl)) pgs_nil))))))) (pss_cons (ps_if (PW.pt (pw_or (pt_not (pt_val (pe_fn G_is_name (hr.mono (by first | decide | omega)) rfl (pa_cons (pv 2) pa_nil)))) (pw_or (pt_cmpR (opU al) (pv 2) (pe_fldU K (pv 0) rfl) rfl) (pw_or (pt_not (pt_chain (opU al) (opU al) pe_int (pv 5) (pe_gi c_MOST_LOT rfl))) (pw_or1 (pt_not (pt_chain (opU al) (opU al) pe_int (pv 6) (pe_gi c_MOST_LEAD rfl)))))))) (pss_one (ps_ret pe_bl)) pss_nil) (pss_cons (ps_setLc (i := 7) (own := [("part", 8), ("many", 9)]) al.calm sc_Parts_is_row.nd rfl rfl (sw_true rfl rfl rfl (by decide +kernel)) (pi_val al (pv 3)) (blkOk_by (own := [("part", 8), ("many", 9)]) (N := ["self", "row", "name", "needs", "steps", "lot", "lead", "others", "part", "many", "machine", "minutes"]) (sc := (defScope s_Parts_is_row)) (by decide +kernel)) (fun _ _ _ _ _ => (pg_tupU (n := 2) K (pgs_cons (pg_name (i := 8) sc_Parts_is_row.nd rfl (by first | exact Or.inl rfl | exact Or.inr rfl)) (pgs_cons (pg_name (i := 9) sc_Parts_is_row.nd rfl (by first | exact Or.inl rfl | exact Or.inr rfl)) pgs_nil)))) (fun _ _ _ _ _ => pts_nil) (fun _ _ _ _ _ => (pv 8))) (pss_cons (ps_if (PW.pt (pw_or (pt_cmpR (opU al) (pe_callB (callU al) (by rfl) n_len b_len (pa_cons (pe_callTy (callU al) (by rfl) n_set b_set (pa_cons (pv 7) pa_nil)) pa_nil)) (pe_callB (callU al) (by rfl) n_len b_len (pa_cons (pv 7) pa_nil)) (nomark _)) (pw_or1 (pt_not (pt_val (pe_callB (callU al) (by rfl) n_all b_all (pa_cons (pe_lc (own := [("part", 8)]) al.calm sc_Parts_is_row.nd (pi_val al (pv 7)) (blkOk_by (own := [("part", 8)]) (N := ["self", "row", "name", "needs", "steps", "lot", "lead", "others", "part", "many", "machine", "minutes"]) (sc := (defScope s_Parts_is_row)) (by decide +kernel)) (fun _ _ _ _ _ => (pg_name (i := 8) sc_Parts_is_row.nd rfl (by first | exact Or.inl rfl | exact Or.inr rfl))) (fun _ _ _ _ _ => pts_nil) (fun _ _ _ _ _ => (pe_cmpR (opU al) (pv 8) (pe_fldU K (pv 0) rfl) rfl))) pa_nil))))))) (pss_one (ps_ret pe_bl)) pss_nil) (pss_cons (ps_if (PW.pt (pw_or (pt_not (pt_val (pe_callB (callU al) (by rfl) n_all b_all (pa_cons (pe_lc (own := [("part", 8), ("many", 9)]) al.calm sc_Parts_is_row.nd (pi_val al (pv 3)) (blkOk_by (own := [("part", 8), ("many", 9)]) (N := ["self", "row", "name", "needs", "steps", "lot", "lead", "others", "part", "many", "machine", "minutes"]) (sc := (defScope s_Parts_is_row)) (by decide +kernel)) (fun _ _ _ _ _ => (pg_tupU (n := 2) K (pgs_cons (pg_name (i := 8) sc_Parts_is_row.nd rfl (by first | exact Or.inl rfl | exact Or.inr rfl)) (pgs_cons (pg_name (i := 9) sc_Parts_is_row.nd rfl (by first | exact Or.inl rfl | exact Or.inr rfl)) pgs_nil)))) (fun _ _ _ _ _ => pts_nil) (fun _ _ _ _ _ => (pe_chain (opU al) (opU al) pe_int (pv 9) (pe_gi c_MOST_NEED rfl)))) pa_nil)))) (pw_or1 (pt_cmpR (opU al) (pe_callB (callU al) (by rfl) n_len b_len (pa_cons (pv 4) pa_nil)) (pe_gi c_MOST_STEPS rfl) (nomark _))))) (pss_one (ps_ret pe_bl)) pss_nil) (pss_one (ps_ret (pe_callB (callU al) (by rfl) n_all b_all (pa_cons (pe_lc (own := [("machine", 10), ("minutes", 11)]) al.calm sc_Parts_is_row.nd (pi_val al (pv 4)) (blkOk_by (own := [("machine", 10), ("minutes", 11)]) (N := ["self", "row", "name", "needs", "steps", "lot", "lead", "others", "part", "many", "machine", "minutes"]) (sc := (defScope s_Parts_is_row)) (by decide +kernel)) (fun _ _ _ _ _ => (pg_tupU (n := 2) K (pgs_cons (pg_name (i := 10) sc_Parts_is_row.nd rfl (by first | exact Or.inl rfl | exact Or.inr rfl)) (pgs_cons (pg_name (i := 11) sc_Parts_is_row.nd rfl (by first | exact Or.inl rfl | exact Or.inr rfl)) pgs_nil)))) (fun _ _ _ _ _ => pts_nil) (fun _ _ _ _ _ => (pe_and (pe_chain (opU al) (opU al) pe_int (pv 10) (pe_gi c_MACHINES rfl)) (pe_one (pe_chain (opU al) (opU al) pe_int (pv 11) (pe_gi c_MOST_MINUTES rfl)))))) pa_nil))))))))), ?_⟩
    repeat tb_start
    obtain ⟨lo1, lo2⟩ := G.lot
    obtain ⟨le1, le2⟩ := G.lead
    have fs := G.few
    refine r_gtupRow S hv fun v2 v3 h2 h3 => ?_
    repeat tb_start
    have nl : r.name.length ≤ 1000 := by
      have := G.nm
      unfold isNameM at this
      simp only [Bool.and_eq_true, decide_eq_true_eq] at this
      omega
    refine ⟨B, r.name, rfl, S.ex, nl, fun B1 H1 T1 => ?_⟩
    have S1 := S.callP T1
    have e1 := T1.ex0
    repeat tb_start
    rw [G.nm]
    repeat tb_start
    have no : (valV kvs (.inr r.name)).isSome = false := valV_isSome_false (by
      rw [hk]
      intro z
      obtain ⟨x, hx, e⟩ := List.mem_map.mp z
      exact G.new (Sum.inr.inj e ▸ hx))
    rw [no]
    repeat tb_start
    have nlen : r.needs.length ≤ 12 := by
      have h1 := nodup_sub_length G.nd (l' := names) (by
        intro x hx
        obtain ⟨y, hy, rfl⟩ := List.mem_map.mp hx
        exact G.known y hy)
      rw [List.length_map] at h1
      omega
    refine lcPureT S1 (h2.up e1) (fun _ => true) (fun x => .str x.1) (by omega) ?_ ?_
    · intro x v B2 D acc H2 C Cs hx e2 S2 hv kC kS
      repeat tb_start
      refine r_gtupSI S2 hv ?_
      repeat tb_start
      refine ⟨rfl, ?_⟩
      repeat tb_start
      exact kC _ _ _ rfl (Ex.refl _) S2 (.str _)
    · intro D acc B2 H2 e2 S2 hacc
      rw [filter_tt] at hacc
      have hD' : DpAll K B2 acc ((r.needs.map (·.1)).map PyData.str) := by rw [List.map_map]; exact hacc
      obtain ⟨B3, e3, S3, hD⟩ := S2.toData hD'
      repeat tb_start
      refine v_setOfD S3 hD (by rw [List.length_map]; omega) fun p4 H4 S4 => ?_
      rw [unlike_strs G.nd] at S4
      repeat tb_start
      refine v_lenSet (S4.mem (.head _)) (by rw [List.length_map]; omega) ?_
      have S5 := S4.drop
      repeat tb_start
      refine lcPureL S5 hD (fun _ => true) (fun _ => .bool true) (by rw [List.length_map]; omega) ?_ ?_
      · intro x v B6 D6 acc6 H6 C Cs hx e6 S6 hv kC kS
        obtain rfl := hv.str_inv
        repeat tb_start
        refine ⟨rfl, ?_⟩
        repeat tb_start
        have yes : (valV kvs (.inr x)).isSome = true := valV_isSome_true (by
          rw [hk]
          obtain ⟨y, hy, rfl⟩ := List.mem_map.mp hx
          exact List.mem_map.mpr ⟨_, G.known y hy, rfl⟩)
        rw [yes]
        exact kC _ _ _ rfl (Ex.refl _) S6 (.bl _)
      · intro D6 acc6 B6 H6 e6 S6 hacc6
        rw [filter_tt] at hacc6
        obtain ⟨B7, e7, S7, hD7⟩ := S6.toData (ds := ((r.needs.map (·.1)).map fun _ => true).map PyData.bool) (by rw [List.map_map]; exact hacc6)
        repeat tb_start
        refine v_allD S7 hD7 ?_
        have all1 : (((r.needs.map (·.1)).map fun _ => true).all id) = true := by simp
        rw [all1]
        repeat tb_start
        refine lcPureT S7 (h2.up (e1.trans (e2.trans (e3.trans (e6.trans e7))))) (fun _ => true) (fun _ => .bool true) (by omega) ?_ ?_
        · intro x v B8 D8 acc8 H8 C Cs hx e8 S8 hv kC kS
          obtain ⟨m1, m2⟩ := G.many x hx
          repeat tb_start
          refine r_gtupSI S8 hv ?_
          repeat tb_start
          refine ⟨rfl, ?_⟩
          repeat tb_start
          rw [decide_eq_true m2]
          exact kC _ _ _ rfl (Ex.refl _) S8 (.bl _)
        · intro D8 acc8 B8 H8 e8 S8 hacc8
          rw [filter_tt] at hacc8
          obtain ⟨B9, e9, S9, hD9⟩ := S8.toData (ds := (r.needs.map fun _ => true).map PyData.bool) (by rw [List.map_map]; exact hacc8)
          repeat tb_start
          refine v_allD S9 hD9 ?_
          have all2 : ((r.needs.map fun _ => true).all id) = true := by simp
          rw [all2]
          repeat tb_start
          refine lcPureT S9 (h3.up (e1.trans (e2.trans (e3.trans (e6.trans (e7.trans (e8.trans e9))))))) (fun _ => true) (fun _ => .bool true) (by omega) ?_ ?_
          · intro x v Ba Da acca Ha C Cs hx ea Sa hv kC kS
            obtain ⟨⟨m1, m2⟩, m3, m4⟩ := G.steps x hx
            repeat tb_start
            refine r_gtupII Sa hv ?_
            repeat tb_start
            refine ⟨rfl, ?_⟩
            repeat tb_start
            rw [decide_eq_true m4]
            exact kC _ _ _ rfl (Ex.refl _) Sa (.bl _)
          · intro Da acca Ba Ha ea Sa hacca
            rw [filter_tt] at hacca
            obtain ⟨Bb, eb, Sb, hDb⟩ := Sa.toData (ds := (r.steps.map fun _ => true).map PyData.bool) (by rw [List.map_map]; exact hacca)
            repeat tb_start
            refine v_allD Sb hDb ?_
            have all3 : ((r.steps.map fun _ => true).all id) = true := by simp
            rw [all3]
            exact k _ _ Sb
end
end LW

namespace LW
open PySem PySem.Spec PyProof.Rows L2 WK PM
abbrev s_Parts_led_to : Stmt := inClass (topS 23) 2
theorem sc_Parts_led_to : FnScope ["self", "needs", "found", "part", "many", "other", "more"] ["self", "needs"] (defScope s_Parts_led_to) := ⟨rfl, rfl, rfl, by decide +kernel, rfl, by decide +kernel, by decide +kernel⟩
def spLedTo (K : PySem.W.Frag) (CP : Addr) : Sp := fun vs H Q _ => ∃ (B : Hp) (p dx a l : Addr) (v : V) (rkv lkv : List (Key × V)) (names : List Str) (ls : List (Str × List (Str × Int))) (needs : List (Str × Int)), vs = [.ref p, v] ∧ Ex B H ∧
  H p = some (.ins CP dx (fldsP a l)) ∧ H a = some (.dK rkv) ∧ B a = none ∧ rkv.map (·.1) = names.map Sum.inr ∧ names.Nodup ∧ names.length ≤ 12 ∧ Rd H l (.dK lkv) ∧ LedKV B lkv ls ∧ Dp K B v (.tuple (needs.map encNeed)) ∧
  (∀ x ∈ needs, x.1 ∈ names ∧ (1 ≤ x.2 ∧ x.2 ≤ 9) ∧ ∃ m, getA ls x.1 = some m ∧ ∀ y ∈ m, y.1 ∈ names) ∧
  ∀ D B' H', Ex B B' → Ok ⟨B, H, []⟩ B' [(D, .dK (kvI (ledTo names ls needs)))] H' → Q (.ref D) H'
section
variable {P : Program} {w : World} {K : PySem.W.Frag} {mg : Str → Option Value} {base : Heap}
theorem ok_led_to {f CP : Addr} {fd : FuncData} (F : Fun K "led_to" "Parts.led_to" s_Parts_led_to f fd) (clP : Cls K CP) (nRows : NoAttr K CP "rows") (nLed : NoAttr K CP "led") : FnOk P w K mg base CX0 1 f fd ["self", "needs"] (spLedTo K CP) := by
  refine F.ok sc_Parts_led_to (fun vs H Q E h => ?_) (fun cdv A outer s H vs Q E hr h => ?_)
  · obtain ⟨B, p, dx, a, l, v, rkv, lkv, names, ls, needs, rfl, _⟩ := h
    rfl
  · obtain ⟨B, p, dx, a, l, v, rkv, lkv, names, ls, needs, rfl, ex, hp, ha, hb, hk, nd, hn, hl, LK, hv, hx, k⟩ := h
    have S := Ok.start0 ex
    refine with_al (P := P) (w := w) (K := K) hr (fun al => ?_)
    refine ⟨_, (pss_cons (ps_lock (ps_setDc (i := 2) (own := [("part", 3)]) al.calm sc_Parts_led_to.nd rfl rfl (sw_trueD rfl rfl rfl (by decide +kernel)) (pi_keys (pe_fldU K (pv 0) rfl)) (blkOk_by (own := [("part", 3)]) (N := ["self", "needs", "found", "part", "many", "other", "more"]) (sc := (defScope s_Parts_led_to)) (by decide +kernel)) (fun _ _ _ _ _ => (pg_name (i := 3) sc_Parts_led_to.nd rfl (by first | exact Or.inl rfl | exact Or.inr rfl))) (fun _ _ _ _ _ => pts_nil) (fun _ _ _ _ _ => (pv 3)) (fun _ _ _ _ _ => pe_int))) (pss_cons (ps_for PassesOwn.never rfl (pi_val al (pv 1)) (pg_tupU (n := 2) K (pgs_cons (pg_name (i := 3) sc_Parts_led_to.nd rfl (by first | exact Or.inl rfl | exact Or.inr rfl)) (pgs_cons (pg_name (i := 4) sc_Parts_led_to.nd rfl (by first | exact Or.inl rfl | exact Or.inr rfl)) pgs_nil))) (pss_cons (ps_augS (pv 2) (pv 3) (getU al) (pv 4) (ipU al) (setU al)) (pss_one (ps_for PassesOwn.never rfl (pi_items (pe_ix (ixU al) (pe_fldU K (pv 0) rfl) (pv 3) (fun _ _ => rfl))) (pg_tupU (n := 2) K (pgs_cons (pg_name (i := 5) sc_Parts_led_to.nd rfl (by first | exact Or.inl rfl | exact Or.inr rfl)) (pgs_cons (pg_name (i := 6) sc_Parts_led_to.nd rfl (by first | exact Or.inl rfl | exact Or.inr rfl)) pgs_nil))) (pss_one (ps_augS (pv 2) (pv 5) (getU al) (pe_op (opU al) (pv 4) (pv 6)) (ipU al) (setU al))))))) (pss_one (ps_ret (pe_frz (pe_dc (own := [("part", 3), ("many", 4)]) al.calm sc_Parts_led_to.nd (pi_items (pv 2)) (blkOk_by (own := [("part", 3), ("many", 4)]) (N := ["self", "needs", "found", "part", "many", "other", "more"]) (sc := (defScope s_Parts_led_to)) (by decide +kernel)) (fun _ _ _ _ _ => (pg_tupU (n := 2) K (pgs_cons (pg_name (i := 3) sc_Parts_led_to.nd rfl (by first | exact Or.inl rfl | exact Or.inr rfl)) (pgs_cons (pg_name (i := 4) sc_Parts_led_to.nd rfl (by first | exact Or.inl rfl | exact Or.inr rfl)) pgs_nil)))) (fun _ _ _ _ _ => pts_one (pt_cmpR (opU al) (pv 4) pe_int (nomark _))) (fun _ _ _ _ _ => (pv 3)) (fun _ _ _ _ _ => (pv 4)))))))), ?_⟩
    repeat tb_start
    refine r_lockS ha trivial fun od => ?_
    have S1 := S.lock (od := od) ha hb (by simp)
    have hp1 : upd H a (.frz od (.dK rkv)) p = some (.ins CP dx (fldsP a l)) := by
      rw [upd_ne (fun z => by rw [z, ha] at hp; cases hp)]; exact hp
    repeat tb_start
    refine keyQ upd_same ?_
    refine dcPure src_keys S1 (fun B1 D acc e => .inr (.tail _ (.head _))) (fun _ => true) (fun q => (q, .int 0)) ?_ ?_ ?_ ?_
    · rw [List.map_id', hk]
      exact nodup_inr nd
    · rw [hk, List.length_map]; omega
    · intro q x B2 D acc H2 C Cs hq e2 S2 hv kC kS
      rw [hk] at hq
      obtain ⟨z, hz, rfl⟩ := List.mem_map.mp hq
      subst hv
      repeat tb_start
      refine ⟨rfl, ?_⟩
      repeat tb_start
      exact kC _ _ _ rfl rfl (Ex.refl _) S2
    · intro D B2 H2 e2 S2
      rw [filter_tt, hk] at S2
      have eq0 : ((names.map Sum.inr).map fun q : Key => ((q, .int 0) : Key × V)) = kvI (names.map fun s => (s, 0)) := by
        unfold kvI
        rw [List.map_map, List.map_map]; rfl
      rw [eq0] at S2
      have S3 := S2.swap
      obtain ⟨e0, S4⟩ := S.unlock ha hb (by simp) S3
      refine ⟨e0, ?_⟩
      repeat tb_start
      refine forDT S4 (hv.up e2) (fun i σ B1 L1 => ∃ x1 x2 x3 x4, σ = [some (.ref p), some v, some (.ref D), x1, x2, x3, x4] ∧ L1 = [(D, .dK (kvI ((needs.take i).foldl (needStep ls) (names.map fun s => (s, 0)))))]) ?_ ?_ ?_
      · exact ⟨_, _, _, _, rfl, rfl⟩
      · rintro i x xv σ B1 B3 L1 H3 hget ⟨_, _, _, _, rfl, rfl⟩ e3 e4 S5 hxv
        have hmem := List.mem_of_getElem? hget
        obtain ⟨hin, ⟨m1, m2⟩, m, hm, hmk⟩ := hx x hmem
        have keys0 : ((needs.take i).foldl (needStep ls) (names.map fun s => (s, 0))).map (·.1) = names := by
          rw [needs_keys]
          · rw [List.map_map]; exact List.map_id' _
          · intro y hy
            rw [List.map_map]
            exact (List.map_id' names).symm ▸ (hx y (List.mem_of_mem_take hy)).1
          · intro y hy m' em z hz
            obtain ⟨_, _, m'', em'', hm''⟩ := hx y (List.mem_of_mem_take hy)
            rw [em''] at em
            cases em
            rw [List.map_map]
            exact (List.map_id' names).symm ▸ hm'' z hz
        rw [foldl_take_succ hget]
        generalize hf : (needs.take i).foldl (needStep ls) (names.map fun s => (s, 0)) = f at S5 keys0 ⊢
        repeat tb_start
        refine r_gtupSI S5 hxv ?_
        repeat tb_start
        obtain ⟨c, hc⟩ := getA_of_mem (l := f) (s := x.1) (by rw [keys0]; exact hin)
        refine v_getDS (kvs := kvI f) (by kts_caught) (by rw [valV_kvI, hc]; rfl) ?_
        repeat tb_start
        have len1 : f.length ≤ 12 := by
          have := congrArg List.length keys0
          rw [List.length_map] at this
          omega
        refine v_setKN (k := .inr x.1) 0 S5 rfl rfl (by rw [List.length_map, sizeLine_eq]; omega) fun H4 S6 => ?_
        rw [putK_kvI] at S6
        have eadd : putA f x.1 (c + x.2) = addA f x.1 x.2 := by unfold addA; rw [hc]; rfl
        rw [eadd] at S6
        replace S6 : Ok _ B3 [(D, .dK (kvI (addA f x.1 x.2)))] H4 := S6
        have keys1 : (addA f x.1 x.2).map (·.1) = names := by rw [addA_keys (by rw [keys0]; exact hin), keys0]
        obtain ⟨d, od2, hd1, hd2⟩ := LK.get hm
        repeat tb_start
        refine v_ixDS (kvs := lkv) (S6.keptRd hl) hd1 ?_
        repeat tb_start
        have e5 : Ex B B3 := e2.trans (e3.trans e4)
        refine itmQ (S6.ex _ _ (e5 _ _ hd2)) ?_
        refine forDS src_items S6 (fun j σ B1 L1 => ∃ x3 x4, σ = [some (.ref p), some v, some (.ref D), some (.str x.1), some (.int x.2), x3, x4] ∧ L1 = [(D, .dK (kvI (addAll x.2 (addA f x.1 x.2) (m.take j))))]) (fun j σ B1 L1 e6 _ => .inl (e6 _ _ (e5 _ _ hd2))) ?_ ?_ ?_
        · exact ⟨_, _, rfl, rfl⟩
        · rintro j kv yv σ B1 B4 L1 H5 hgetj ⟨_, _, rfl, rfl⟩ e6 e7 S7 ⟨T, rfl, hT⟩
          obtain ⟨y, hy, rfl⟩ := kvI_get hgetj
          have hyk := hmk y (List.mem_of_getElem? hy)
          unfold addAll at S7 ⊢
          rw [foldl_take_succ hy]
          have keys2 : ((m.take j).foldl (fun f p => addA f p.1 (x.2 * p.2)) (addA f x.1 x.2)).map (·.1) = names := by
            have := addAll_keys (m := x.2) (f := addA f x.1 x.2) (more := m.take j) (fun z hz => by rw [keys1]; exact hmk z (List.mem_of_mem_take hz))
            unfold addAll at this
            rw [this, keys1]
          generalize hg : (m.take j).foldl (fun f p => addA f p.1 (x.2 * p.2)) (addA f x.1 x.2) = g at S7 keys2 ⊢
          refine r_gtupB S7 hT rfl ?_
          repeat tb_start
          obtain ⟨c2, hc2⟩ := getA_of_mem (l := g) (s := y.1) (by rw [keys2]; exact hyk)
          refine v_getDS (kvs := kvI g) (by kts_caught) (by rw [valV_kvI, hc2]; rfl) ?_
          repeat tb_start
          have len2 : g.length ≤ 12 := by
            have := congrArg List.length keys2
            rw [List.length_map] at this
            omega
          refine v_setKN (k := .inr y.1) 0 S7 rfl rfl (by rw [List.length_map, sizeLine_eq]; omega) fun H6 S8 => ?_
          rw [putK_kvI] at S8
          have eadd2 : putA g y.1 (c2 + x.2 * y.2) = addA g y.1 (x.2 * y.2) := by
            rw [addA, hc2]; rfl
          rw [eadd2] at S8
          refine NxE.mk' S8 (e6.trans e7) ?_
          exact ⟨_, _, rfl, rfl⟩
        · rintro σ B4 L4 H5 ⟨_, _, rfl, rfl⟩ e6 S7
          have et : m.take (kvI m).length = m := by rw [List.length_map, List.take_length]
          rw [et] at S7
          refine NxE.mk' S7 ((e3.trans e4).trans e6) ?_
          refine ⟨_, _, _, _, rfl, ?_⟩
          unfold needStep
          rw [hm]
          rfl
      · rintro σ B4 L4 H4 ⟨_, _, _, _, rfl, rfl⟩ e3 S5
        rw [List.take_length] at S5
        have keys0 : (ledRaw names ls needs).map (·.1) = names := by
          unfold ledRaw
          rw [needs_keys]
          · rw [List.map_map]; exact List.map_id' _
          · intro y hy
            rw [List.map_map]
            exact (List.map_id' names).symm ▸ (hx y hy).1
          · intro y hy m' em z hz
            obtain ⟨_, _, m'', em'', hm''⟩ := hx y hy
            rw [em''] at em
            cases em
            rw [List.map_map]
            exact (List.map_id' names).symm ▸ hm'' z hz
        replace S5 : Ok _ B4 [(D, .dK (kvI (ledRaw names ls needs)))] H4 := S5
        repeat tb_start
        refine frzE (S5.own _ (.head _)).1 trivial fun od3 => ?_
        obtain ⟨B5, e5, hD, S6⟩ := S5.freezeD (od := od3)
        repeat tb_start
        refine itmQ (S6.ex _ _ hD) ?_
        refine dcPure src_items S6 (fun B1 D acc e => .inl (e _ _ hD)) (vInt fun i => decide (0 < i)) id ?_ ?_ ?_ ?_
        · show ((kvI (ledRaw names ls needs)).map (·.1)).Nodup
          rw [kvI_keys, keys0]
          exact nodup_inr nd
        · have := congrArg List.length keys0
          rw [List.length_map] at this ⊢
          omega
        · rintro kv x B6 D6 acc H6 C Cs hkv e6 S7 ⟨T, rfl, hT⟩ kC kS
          obtain ⟨y, hy, rfl⟩ := List.mem_map.mp hkv
          refine r_gtupB S7 hT rfl ?_
          repeat tb_start
          refine ⟨rfl, ?_⟩
          repeat tb_start
          refine ifd (fun h0 => ?_) (fun h0 => ?_)
          · repeat tb_start
            exact kC _ _ _ (decide_eq_true h0) rfl (Ex.refl _) S7
          · exact kS _ _ (decide_eq_false h0) (Ex.refl _) S7
        · intro D6 B6 H6 e6 S7
          rw [List.map_id] at S7
          rw [kvI_filter] at S7
          exact k D6 B6 H6 (e2.trans (e3.trans (e5.trans e6))) S7
end
end LW

namespace LW
open PySem PySem.Spec PyProof.Rows L2 WK PM
abbrev s_Parts___init__ : Stmt := inClass (topS 23) 0
theorem sc_Parts___init__ : FnScope ["self", "told", "at", "row", "name", "needs", "steps", "lot", "lead"] ["self", "told"] (defScope s_Parts___init__) := ⟨rfl, rfl, rfl, by decide +kernel, rfl, by decide +kernel, by decide +kernel⟩
def spPInit (K : PySem.W.Frag) (CP : Addr) : Sp := fun vs H Q _ => ∃ (B : Hp) (p dx : Addr) (v : V) (rs : List PRow), vs = [.ref p, v] ∧ Ok ⟨B, H, [p]⟩ B [(p, .ins CP dx [])] H ∧ Dpl K B v (rs.map encRow) ∧ GoodBook rs ∧
  ∀ a l rkv lkv B' H', Ex B B' → RowKV K B' rkv rs → LedKV B' lkv (ledOf rs) → Ok ⟨B, H, [p]⟩ B' [(l, .dK lkv), (a, .dK rkv), (p, .ins CP dx (fldsP a l))] H' → Q .non H'
section
variable {P : Program} {w : World} {K : PySem.W.Frag} {mg : Str → Option Value} {base : Heap}
theorem ok_parts_init {f CP : Addr} {fd : FuncData} (F : Fun K "__init__" "Parts.__init__" s_Parts___init__ f fd) (G_is_row : MtG P w K mg base 2 CP "is_row" ["self", "row"] (spIsRow K CP)) (G_led_to : MtG P w K mg base 1 CP "led_to" ["self", "needs"] (spLedTo K CP))
    (clP : Cls K CP) (nRows : NoAttr K CP "rows") (nLed : NoAttr K CP "led") (n_enumerate : mg "enumerate" = none) (n_tuple : mg "tuple" = none) (n_sum : mg "sum" = none) (c_MOST_PARTS : GlI mg "MOST_PARTS" 12) (c_MOST_LED : GlI mg "MOST_LED" 200) : FnOk P w K mg base CX0 3 f fd ["self", "told"] (spPInit K CP) := by
  refine F.ok sc_Parts___init__ (fun vs H Q E h => ?_) (fun cdv A outer s H vs Q E hr h => ?_)
  · obtain ⟨B, p, dx, v, rs, rfl, _⟩ := h
    rfl
  · obtain ⟨B, p, dx, v, rs, rfl, S, hv, G, k⟩ := h
    refine with_al (P := P) (w := w) (K := K) hr (fun al => ?_)
    refine ⟨_, (pss_cons (ps_fldK K (pv 0) pe_dnewK rfl) (pss_cons (ps_fldK K (pv 0) pe_dnewK rfl) (pss_one (ps_for PassesOwn.never rfl (pi_enumV (by rfl) n_enumerate (pa_cons (pv 1) pa_nil)) (pg_tupU (n := 2) K (pgs_cons (pg_name (i := 2) sc_Parts___init__.nd rfl (by first | exact Or.inl rfl | exact Or.inr rfl)) (pgs_cons (pg_name (i := 3) sc_Parts___init__.nd rfl (by first | exact Or.inl rfl | exact Or.inr rfl)) pgs_nil))) (pss_cons (ps_if (PW.pt (pw_or (pt_cmpR (opU al) (pv 2) (pe_gi c_MOST_PARTS rfl) (nomark _)) (pw_or1 (pt_not (pt_val (pe_mth G_is_row (hr.mono (by first | decide | omega)) (pv 0) (pa_cons (pv 3) pa_nil))))))) (pss_one ps_never) pss_nil) (pss_cons (ps_asg (pv 3) (pg_tupU (n := 5) K (pgs_cons (pg_name (i := 4) sc_Parts___init__.nd rfl (by first | exact Or.inl rfl | exact Or.inr rfl)) (pgs_cons (pg_name (i := 5) sc_Parts___init__.nd rfl (by first | exact Or.inl rfl | exact Or.inr rfl)) (pgs_cons (pg_name (i := 6) sc_Parts___init__.nd rfl (by first | exact Or.inl rfl | exact Or.inr rfl)) (pgs_cons (pg_name (i := 7) sc_Parts___init__.nd rfl (by first | exact Or.inl rfl | exact Or.inr rfl)) (pgs_cons (pg_name (i := 8) sc_Parts___init__.nd rfl (by first | exact Or.inl rfl | exact Or.inr rfl)) pgs_nil))))))) (pss_cons (ps_asg (pe_tup (pa_cons (pe_callTy (callU al) (by rfl) n_tuple b_tuple (pa_cons (pv 5) pa_nil)) (pa_cons (pe_callTy (callU al) (by rfl) n_tuple b_tuple (pa_cons (pv 6) pa_nil)) (pa_cons (pv 7) (pa_cons (pv 8) pa_nil))))) (pg_sub (pe_fldU K (pv 0) rfl) (pv 4) (setU al))) (pss_cons (ps_asg (pe_mth G_led_to (hr.mono (by first | decide | omega)) (pv 0) (pa_cons (pv 5) pa_nil)) (pg_sub (pe_fldU K (pv 0) rfl) (pv 4) (setU al))) (pss_one (ps_frz (ps_if (pt_cmpR (opU al) (pe_sumVals al.calm (by rfl) n_sum (pe_ix (ixU al) (pe_fldU K (pv 0) rfl) (pv 4) (fun _ _ => rfl))) (pe_gi c_MOST_LED rfl) (nomark _)) (pss_one ps_never) pss_nil))))))))))), ?_⟩
    repeat tb_start
    refine new_dK S fun a H1 S1 => ?_
    repeat tb_start
    refine sfdQ 1 S1 rfl clP nRows (by decide) rfl fun H2 S2 => ?_
    repeat tb_start
    refine new_dK S2 fun l H3 S3 => ?_
    repeat tb_start
    refine sfdQ 2 S3 rfl clP nLed (by show 1 < 1000; decide) rfl fun H4 S4 => ?_
    replace S4 : Ok ⟨B, H, [p]⟩ B [(l, .dK []), (a, .dK []), (p, .ins CP dx (fldsP a l))] H4 := S4
    repeat tb_start
    refine enuD S4 hv fun J src => ?_
    refine forDS src S4 (fun i σ B1 L1 => ∃ x1 x2 x3 x4 x5 x6 x7 rkv lkv, σ = [some (.ref p), some v, x1, x2, x3, x4, x5, x6, x7] ∧ RowKV K B1 rkv (rs.take i) ∧ LedKV B1 lkv (ledOf (rs.take i)) ∧ L1 = [(l, .dK lkv), (a, .dK rkv), (p, .ins CP dx (fldsP a l))])
      (fun i σ B1 L1 e _ => e) ?_ ?_ ?_
    · exact ⟨_, _, _, _, _, _, _, _, _, rfl, .nil, .nil, rfl⟩
    · rintro i y xv σ B1 B3 L1 H5 hget ⟨_, _, _, _, _, _, _, rkv, lkv, rfl, RK0, LK0, rfl⟩ e3 e4 S5 ⟨T, u, rfl, hT, hu⟩
      obtain ⟨hr1, hr2⟩ := zipIdx_at hget
      have RK := RK0.up e4
      have LK := LK0.up e4
      have R := G.row i _ hr1
      have hi : i < rs.length := (List.getElem?_eq_some_iff.mp hr1).1
      have hlen := G.len
      refine r_gtupB S5 hT rfl ?_
      repeat tb_start
      have names_len : ((rs.take i).map (·.name)).length ≤ 12 := by rw [List.length_map, List.length_take]; omega
      refine ⟨B3, p, dx, a, l, u, rkv, (rs.take i).map (·.name), y.1, rfl, S5.ex, by kts_caught, by kts_caught, RK.keys, hu, R, names_len, fun B6 H6 T6 => ?_⟩
      have S6 := S5.callP T6
      have e6 := T6.ex0
      repeat tb_start
      refine r_gtupRow S6 (hu.up e6) fun v2 v3 h2 h3 => ?_
      repeat tb_start
      refine v_tupDT S6 h2 ?_
      repeat tb_start
      refine v_tupDT S6 h3 ?_
      repeat tb_start
      refine new_tupD S6 (.cons h2 (.cons h3 (.cons (.int _) (.cons (.int _) .nil)))) (by simp) fun t B7 H7 e7 S7 ht => ?_
      repeat tb_start
      refine v_setKN (k := .inr y.1.name) 1 S7 rfl rfl ?_ fun H8 S8 => ?_
      · have := congrArg List.length RK.keys
        rw [List.length_map, List.length_map] at this
        rw [this, sizeLine_eq]
        omega
      have no : valV rkv (.inr y.1.name) = none := valV_none (by
        rw [RK.keys]
        intro z
        obtain ⟨x, hx, e⟩ := List.mem_map.mp z
        exact R.new (Sum.inr.inj e ▸ hx))
      rw [putK_new _ no] at S8
      replace S8 : Ok ⟨B, H, [p]⟩ B7 [(l, .dK lkv), (a, .dK (rkv ++ [(.inr y.1.name, .ref t)])), (p, .ins CP dx (fldsP a l))] H8 := S8
      have RK8 : RowKV K B7 (rkv ++ [(.inr y.1.name, .ref t)]) (rs.take (i + 1)) := by
        rw [List.take_add_one, hr1]
        exact ((RK.up e6).up e7).snoc ht
      have LK8 := (LK.up e6).up e7
      repeat tb_start
      refine ⟨B7, p, dx, a, l, v2, _, lkv, (rs.take i).map (·.name) ++ [y.1.name], ledOf (rs.take i), y.1.needs, rfl, S8.ex, by kts_caught, S8.mem (.tail _ (.head _)), (S8.own _ (.tail _ (.head _))).2, ?_, ?_, ?_, by kts_caught, LK8, h2.up e7, G.needs hr1, fun D B9 H9 e9 T9 => ?_⟩
      · rw [← take_succ_map hr1]
        exact RK8.keys
      · rw [← take_succ_map hr1]
        exact G.nodup _
      · rw [← take_succ_map hr1, List.length_map, List.length_take]; omega
      have S9 := S8.callN T9
      have hm : ledTo ((rs.take i).map (·.name) ++ [y.1.name]) (ledOf (rs.take i)) y.1.needs = ledTo ((ledOf (rs.take i)).map (·.1) ++ [y.1.name]) (ledOf (rs.take i)) y.1.needs := by rw [ledOf_names]
      rw [hm] at S9
      have hstep : ledOf (rs.take (i + 1)) = ledOf (rs.take i) ++ [(y.1.name, ledTo ((ledOf (rs.take i)).map (·.1) ++ [y.1.name]) (ledOf (rs.take i)) y.1.needs)] := ledOf_take hr1
      generalize ledTo ((ledOf (rs.take i)).map (·.1) ++ [y.1.name]) (ledOf (rs.take i)) y.1.needs = m at S9 hstep
      have hsum : (m.map (·.2)).sum ≤ 200 := G.led (y.1.name, m) (ledOf_sub (i + 1) _ (by rw [hstep]; exact List.mem_append_right _ (.head _)))
      repeat tb_start
      refine v_setKN (k := .inr y.1.name) 1 S9 rfl rfl ?_ fun H10 S10 => ?_
      · have := congrArg List.length LK.keys
        have h2 := congrArg List.length (ledOf_names (rs.take i))
        rw [List.length_map, List.length_map] at this h2
        rw [List.length_take] at h2
        rw [this, sizeLine_eq]
        omega
      have noL : valV lkv (.inr y.1.name) = none := valV_none (by
        rw [LK.keys]
        intro z
        obtain ⟨x, hx, e⟩ := List.mem_map.mp z
        refine R.new ?_
        rw [← ledOf_names]
        exact List.mem_map.mpr ⟨x, hx, Sum.inr.inj e⟩)
      rw [putK_new _ noL] at S10
      replace S10 : Ok ⟨B, H, [p]⟩ B9 [(D, .dK (kvI m)), (l, .dK (lkv ++ [(.inr y.1.name, .ref D)])), (a, .dK (rkv ++ [(.inr y.1.name, .ref t)])), (p, .ins CP dx (fldsP a l))] H10 := S10
      repeat tb_start
      refine frzS (S10.own _ (.head _)).1 trivial fun od => ?_
      obtain ⟨B11, e11, hD, S11⟩ := S10.freezeD (od := od)
      repeat tb_start
      refine v_ixDS (kvs := lkv ++ [(.inr y.1.name, .ref D)]) (by kts_caught) (by rw [valV_snoc _ _ _ _ noL, if_pos rfl]) ?_
      refine sumQ (by kts_caught) (kvI_vals m) ?_
      repeat tb_start
      refine NxE.mk' S11 (e3.trans <| e4.trans (e6.trans (e7.trans (e9.trans e11)))) ?_
      refine ⟨_, _, _, _, _, _, _, _, _, rfl, (RK8.up e9).up e11, ?_, rfl⟩
      rw [hstep]
      exact ((LK8.up e9).up e11).snoc hD
    · rintro σ B1 L1 H5 ⟨_, _, _, _, _, _, _, rkv, lkv, rfl, RK, LK, rfl⟩ e3 S5
      rw [List.length_zipIdx, List.take_length] at RK LK
      exact k a l rkv lkv _ _ e3 RK LK S5
end
end LW

namespace LW
open PySem PySem.Spec PyProof.Rows L2 WK PM
def spLL (K : PySem.W.Frag) : Nat → Sp
  | 0 => fun _ _ _ _ => False
  | n + 1 => fun vs H Q _ => ∃ (B : Hp) (a : Addr) (xs : List V) (v : V) (d : PyData) (rs : List PRow) (needs : List (Str × Int)), vs = [.ref a, v] ∧ Ex B H ∧ SqL K H a xs ∧ DpAll K B xs (rs.map encRow) ∧ Dp K B v d ∧ (d = .list (needs.map encNeed) ∨ d = .tuple (needs.map encNeed)) ∧ GoodBook rs ∧
      (∀ x ∈ needs, x.1 ∈ (rs.take n).map (·.name)) ∧ (∀ x ∈ needs, 1 ≤ x.2 ∧ x.2 ≤ 9) ∧ needs.length ≤ 12 ∧ ∀ D H', Ok ⟨B, H, []⟩ B [(D, .dK (kvI (lawLed rs n needs)))] H' → Q (.ref D) H'
section
variable {P : Program} {w : World} {K : PySem.W.Frag} {mg : Str → Option Value} {base : Heap}
end
end LW

namespace LW
open PySem PySem.Spec PyProof.Rows L2 WK PM
def PSn (K : PySem.W.Frag) (F : Ent) (B1 : Hp) (p q D : Addr) (acc : List V) (rs : List PRow) (z mx : Int) : L2.St → Hp → Prop := fun σ' H' => ∃ vn ns x5 x6 x7 x8 m cs kk B', σ' = [some (.ref p), some (.int mx), some (.ref D), some (.int z), some vn, x5, x6, x7, x8] ∧
  Ok F B' ((D, .lst acc) :: hL p q m cs kk) H' ∧ Ex B1 B' ∧ HS cs kk ∧ Dp K B' vn (.list (ns.map encNeed)) ∧ NsOk rs ns
def PSt (K : PySem.W.Frag) (F : Ent) (B1 : Hp) (p q D : Addr) (acc : List V) (rs : List PRow) (z mx : Int) (W : List (Str × Int) → Prop) : L2.St → Hp → Prop := fun σ' H' => ∃ vn ns vs st x5 x7 x8 m cs kk B', σ' = [some (.ref p), some (.int mx), some (.ref D), some (.int z), some vn, x5, some vs, x7, x8] ∧
  Ok F B' ((D, .lst acc) :: hL p q m cs kk) H' ∧ Ex B1 B' ∧ HS cs kk ∧ Dp K B' vn (.list (ns.map encNeed)) ∧ NsOk rs ns ∧ Dp K B' vs (.tuple (st.map encStep)) ∧ StOk st ∧ (z = 0 → st = []) ∧ W ns
/-- the first row has no steps -/
def Fst (rs : List PRow) : Prop := ∀ r, rs[0]? = some r → r.steps = []
/-- a draw, wherever the state stands in the ledger -/
theorem nextQ {F : Ent} {B H : Hp} {Q : VK} {p q : Addr} {m : Int} {cs : List Int} {kk many : Int} (L1 L2 : Led) (S : Ok F B (L1 ++ (hL p q m cs kk ++ L2)) H) (hS : HS cs kk) (h0 : 0 < many) (h1 : many < 1073741824)
    (k : ∀ r m' cs' kk' H', 0 ≤ r → r < many → HS cs' kk' → Ok F B (L1 ++ (hL p q m' cs' kk' ++ L2)) H' → Q (.int r) H') : spNext [.ref p, .int many] H Q E0 := by
  have S1 : Ok F B (hL p q m cs kk ++ (L1 ++ L2)) H := S.perm (by
    rw [← List.append_assoc, ← List.append_assoc]
    exact List.Perm.append_right _ List.perm_append_comm)
  refine ⟨B, p, q, m, cs, kk, many, rfl, S1.sub (L1 := hL p q m cs kk), hS, h0, h1, fun r m' cs' kk' H' r0 r1 hS' T => k r m' cs' kk' H' r0 r1 hS' ?_⟩
  have S2 : Ok F B (hL p q m' cs' kk' ++ (L1 ++ L2)) H' := S1.call (L1 := hL p q m cs kk) (L2 := L1 ++ L2) T
  exact S2.perm (by
    rw [← List.append_assoc, ← List.append_assoc]
    exact List.Perm.append_right _ List.perm_append_comm)
def spLParts (K : PySem.W.Frag) : Sp := fun vs H Q _ => ∃ (B : Hp) (p q : Addr) (m : Int) (cs : List Int) (kk mx : Int), vs = [.ref p, .int mx] ∧ 1 ≤ mx ∧ mx ≤ 12 ∧ Ok ⟨B, H, [p, q]⟩ B (hL p q m cs kk) H ∧ HS cs kk ∧
  ∀ r rs m' cs' kk' B' H', Ex B B' → MyBook rs → Fst rs → rs ≠ [] → (rs.length : Int) ≤ mx → Dp K B' r (.list (rs.map encRow)) → HS cs' kk' → Ok ⟨B, H, [p, q]⟩ B' (hL p q m' cs' kk') H' → Q r H'
section
variable {P : Program} {w : World} {K : PySem.W.Frag} {mg : Str → Option Value} {base : Heap}
end
end LW

namespace LW
open PySem PySem.Spec PyProof.Rows L2 WK PM
abbrev s_need_many : Stmt := topS 24
theorem sc_need_many : FnScope ["number", "low", "high"] ["number", "low", "high"] (defScope s_need_many) := ⟨rfl, rfl, rfl, by decide +kernel, rfl, by decide +kernel, by decide +kernel⟩
abbrev s_Parts_needs_of : Stmt := inClass (topS 23) 3
theorem sc_Parts_needs_of : FnScope ["self", "name"] ["self", "name"] (defScope s_Parts_needs_of) := ⟨rfl, rfl, rfl, by decide +kernel, rfl, by decide +kernel, by decide +kernel⟩
abbrev s_Parts_steps_of : Stmt := inClass (topS 23) 4
theorem sc_Parts_steps_of : FnScope ["self", "name"] ["self", "name"] (defScope s_Parts_steps_of) := ⟨rfl, rfl, rfl, by decide +kernel, rfl, by decide +kernel, by decide +kernel⟩
abbrev s_Parts_is_bought : Stmt := inClass (topS 23) 5
theorem sc_Parts_is_bought : FnScope ["self", "name"] ["self", "name"] (defScope s_Parts_is_bought) := ⟨rfl, rfl, rfl, by decide +kernel, rfl, by decide +kernel, by decide +kernel⟩
abbrev s_Parts_need_part : Stmt := inClass (topS 23) 6
theorem sc_Parts_need_part : FnScope ["self", "name"] ["self", "name"] (defScope s_Parts_need_part) := ⟨rfl, rfl, rfl, by decide +kernel, rfl, by decide +kernel, by decide +kernel⟩
def spNeedMany : Sp := fun vs H Q _ => ∃ (n lo hi : Int), vs = [.int n, .int lo, .int hi] ∧ lo ≤ n ∧ n ≤ hi ∧ Q .non H
/-- a book that stands -/
def spNeedsOf (K : PySem.W.Frag) (CP : Addr) : Sp := fun vs H Q _ => ∃ (B : Hp) (p : Addr) (rs : List PRow) (r : PRow) (z : Str), vs = [.ref p, .str z] ∧ Ex B H ∧ BookAt K CP B p rs ∧ PM.rowOf rs z = some r ∧ ∀ v, Dp K B v (.tuple (r.needs.map encNeed)) → Q v H
def spStepsOf (K : PySem.W.Frag) (CP : Addr) : Sp := fun vs H Q _ => ∃ (B : Hp) (p : Addr) (rs : List PRow) (r : PRow) (z : Str), vs = [.ref p, .str z] ∧ Ex B H ∧ BookAt K CP B p rs ∧ PM.rowOf rs z = some r ∧ ∀ v, Dp K B v (.tuple (r.steps.map encStep)) → Q v H
def spIsBought (K : PySem.W.Frag) (CP : Addr) : Sp := fun vs H Q _ => ∃ (B : Hp) (p : Addr) (rs : List PRow) (r : PRow) (z : Str), vs = [.ref p, .str z] ∧ Ex B H ∧ BookAt K CP B p rs ∧ PM.rowOf rs z = some r ∧ ∀ B' H', Ok ⟨B, H, []⟩ B' [] H' → Q (.bl (r.needs.isEmpty && r.steps.isEmpty)) H'
def spNeedPart (K : PySem.W.Frag) (CP : Addr) : Sp := fun vs H Q _ => ∃ (B : Hp) (p : Addr) (rs : List PRow) (r : PRow) (z : Str), vs = [.ref p, .str z] ∧ Ex B H ∧ BookAt K CP B p rs ∧ PM.rowOf rs z = some r ∧ Q .non H
theorem rowKV_get {K : PySem.W.Frag} {B : Hp} {kvs : List (Key × V)} {rs : List PRow} {z : Str} {r : PRow} (h : RowKV K B kvs rs) (e : PM.rowOf rs z = some r) : ∃ v, valV kvs (.inr z) = some v ∧ Dp K B v (encRest r) := by
  induction h with
  | nil => simp [PM.rowOf] at e
  | @cons v q kvs rs hv h ih =>
    unfold PM.rowOf at e ih
    by_cases hz : q.name = z
    · rw [List.find?_cons_of_pos (by simpa using hz)] at e
      cases e
      exact ⟨v, by unfold valV; rw [List.find?_cons_of_pos (by simp [hz])]; rfl, hv⟩
    · rw [List.find?_cons_of_neg (by simpa using hz)] at e
      obtain ⟨u, h1, h2⟩ := ih e
      exact ⟨u, by unfold valV at h1 ⊢; rw [List.find?_cons_of_neg (by simp [hz])]; exact h1, h2⟩
section
variable {P : Program} {w : World} {K : PySem.W.Frag} {mg : Str → Option Value} {base : Heap}
theorem ok_need_many {f : Addr} {fd : FuncData} (F : Fun K "need_many" "need_many" s_need_many f fd) : FnOk P w K mg base CX0 1 f fd ["number", "low", "high"] spNeedMany := by
  refine F.ok sc_need_many (fun vs H Q E h => ?_) (fun cdv A outer s H vs Q E hr h => ?_)
  · obtain ⟨n, lo, hi, rfl, _⟩ := h
    rfl
  · obtain ⟨n, lo, hi, rfl, h1, h2, k⟩ := h
    refine with_al (P := P) (w := w) (K := K) hr (fun al => ?_)
    refine ⟨_, (pss_one (ps_if (pt_not (pt_chain (opU al) (opU al) (pv 1) (pv 0) (pv 2))) (pss_one ps_never) pss_nil)), ?_⟩
    repeat tb_start
    exact k
theorem ok_needs_of {f CP : Addr} {fd : FuncData} (F : Fun K "needs_of" "Parts.needs_of" s_Parts_needs_of f fd) (clP : Cls K CP) (nRows : NoAttr K CP "rows") : FnOk P w K mg base CX0 1 f fd ["self", "name"] (spNeedsOf K CP) := by
  refine F.ok sc_Parts_needs_of (fun vs H Q E h => ?_) (fun cdv A outer s H vs Q E hr h => ?_)
  · obtain ⟨B, p, rs, r, z, rfl, _⟩ := h
    rfl
  · obtain ⟨B, p, rs, r, z, rfl, ex, ⟨dx, a, l, rkv, lkv, h1, h2, h3, RK, LK⟩, e, k⟩ := h
    have S := Ok.start0 ex
    obtain ⟨v, hv1, hv2⟩ := rowKV_get RK e
    refine with_al (P := P) (w := w) (K := K) hr (fun al => ?_)
    refine ⟨_, (pss_one (ps_ret (pe_ix (ixU al) (pe_ix (ixU al) (pe_fldU K (pv 0) rfl) (pv 1) (fun _ _ => rfl)) pe_int (fun _ _ => rfl)))), ?_⟩
    repeat tb_start
    refine v_ixDS (kvs := rkv) (by kts_caught) hv1 ?_
    repeat tb_start
    exact v_ixDT (j := 0) S hv2 rfl rfl fun u hu => k u hu
theorem ok_steps_of {f CP : Addr} {fd : FuncData} (F : Fun K "steps_of" "Parts.steps_of" s_Parts_steps_of f fd) (clP : Cls K CP) (nRows : NoAttr K CP "rows") : FnOk P w K mg base CX0 1 f fd ["self", "name"] (spStepsOf K CP) := by
  refine F.ok sc_Parts_steps_of (fun vs H Q E h => ?_) (fun cdv A outer s H vs Q E hr h => ?_)
  · obtain ⟨B, p, rs, r, z, rfl, _⟩ := h
    rfl
  · obtain ⟨B, p, rs, r, z, rfl, ex, ⟨dx, a, l, rkv, lkv, h1, h2, h3, RK, LK⟩, e, k⟩ := h
    have S := Ok.start0 ex
    obtain ⟨v, hv1, hv2⟩ := rowKV_get RK e
    refine with_al (P := P) (w := w) (K := K) hr (fun al => ?_)
    refine ⟨_, (pss_one (ps_ret (pe_ix (ixU al) (pe_ix (ixU al) (pe_fldU K (pv 0) rfl) (pv 1) (fun _ _ => rfl)) pe_int (fun _ _ => rfl)))), ?_⟩
    repeat tb_start
    refine v_ixDS (kvs := rkv) (by kts_caught) hv1 ?_
    repeat tb_start
    exact v_ixDT (j := 1) S hv2 rfl rfl fun u hu => k u hu
theorem ok_is_bought {f CP : Addr} {fd : FuncData} (F : Fun K "is_bought" "Parts.is_bought" s_Parts_is_bought f fd) (G_needs_of : MtG P w K mg base 1 CP "needs_of" ["self", "name"] (spNeedsOf K CP)) (G_steps_of : MtG P w K mg base 1 CP "steps_of" ["self", "name"] (spStepsOf K CP)) (clP : Cls K CP) : FnOk P w K mg base CX0 2 f fd ["self", "name"] (spIsBought K CP) := by
  refine F.ok sc_Parts_is_bought (fun vs H Q E h => ?_) (fun cdv A outer s H vs Q E hr h => ?_)
  · obtain ⟨B, p, rs, r, z, rfl, _⟩ := h
    rfl
  · obtain ⟨B, p, rs, r, z, rfl, ex, bk, e, k⟩ := h
    have S := Ok.start0 ex
    obtain ⟨dx, a, l, rkv, lkv, h1, h2, h3, RK, LK⟩ := id bk
    refine with_al (P := P) (w := w) (K := K) hr (fun al => ?_)
    refine ⟨_, (pss_one (ps_ret (pe_and (pe_cmpR (opU al) (pe_mth G_needs_of (hr.mono (by first | decide | omega)) (pv 0) (pa_cons (pv 1) pa_nil)) (pe_tup pa_nil) (nomark _)) (pe_one (pe_cmpR (opU al) (pe_mth G_steps_of (hr.mono (by first | decide | omega)) (pv 0) (pa_cons (pv 1) pa_nil)) (pe_tup pa_nil) (nomark _)))))), ?_⟩
    repeat tb_start
    refine ⟨B, p, rs, r, z, rfl, S.ex, bk, e, fun v hv => ?_⟩
    repeat tb_start
    refine new_tup S (by decide) fun t1 B1 H1 e1 ht1 S1 => ?_
    repeat tb_start
    refine v_eqTNilD S1 (hv.up e1) (S1.tqStay ht1) ?_
    have hn : (r.needs.map encNeed).isEmpty = r.needs.isEmpty := by cases r.needs <;> rfl
    have hs : (r.steps.map encStep).isEmpty = r.steps.isEmpty := by cases r.steps <;> rfl
    rw [hn]
    repeat tb_start
    refine ifb (fun hb => ?_) (fun hb => ?_)
    · repeat tb_start
      refine ⟨B1, p, rs, r, z, rfl, S1.ex, bk.up e1, e, fun v2 hv2 => ?_⟩
      repeat tb_start
      refine new_tup S1 (by decide) fun t2 B2 H2 e2 ht2 S2 => ?_
      repeat tb_start
      refine v_eqTNilD S2 (hv2.up e2) (S2.tqStay ht2) ?_
      rw [hs]
      have q := k _ _ S2
      rw [hb, Bool.true_and] at q
      exact q
    · have q := k _ _ S1
      rw [hb, Bool.false_and] at q
      exact q
theorem ok_need_part {f CP : Addr} {fd : FuncData} (F : Fun K "need_part" "Parts.need_part" s_Parts_need_part f fd) (clP : Cls K CP) (nRows : NoAttr K CP "rows") : FnOk P w K mg base CX0 1 f fd ["self", "name"] (spNeedPart K CP) := by
  refine F.ok sc_Parts_need_part (fun vs H Q E h => ?_) (fun cdv A outer s H vs Q E hr h => ?_)
  · obtain ⟨B, p, rs, r, z, rfl, _⟩ := h
    rfl
  · obtain ⟨B, p, rs, r, z, rfl, ex, ⟨dx, a, l, rkv, lkv, h1, h2, h3, RK, LK⟩, e, k⟩ := h
    have S := Ok.start0 ex
    obtain ⟨v, hv1, hv2⟩ := rowKV_get RK e
    refine with_al (P := P) (w := w) (K := K) hr (fun al => ?_)
    refine ⟨_, (pss_one (ps_if (pt_cmpR (opU al) (pv 1) (pe_fldU K (pv 0) rfl) rfl) (pss_one ps_never) pss_nil)), ?_⟩
    repeat tb_start
    have yes : (valV rkv (.inr z)).isSome = true := by rw [hv1]; rfl
    rw [yes]
    repeat tb_start
    exact k
end
end LW

namespace LW
open PySem PySem.Spec PyProof.Rows L2 WK PM
abbrev s_Piece___init__ : Stmt := inClass (topS 38) 0
theorem sc_Piece___init__ : FnScope ["self", "part"] ["self", "part"] (defScope s_Piece___init__) := ⟨rfl, rfl, rfl, by decide +kernel, rfl, by decide +kernel, by decide +kernel⟩
abbrev s_Floor___init__ : Stmt := inClass (topS 39) 0
theorem sc_Floor___init__ : FnScope ["self", "parts", "rates", "rate"] ["self", "parts", "rates"] (defScope s_Floor___init__) := ⟨rfl, rfl, rfl, by decide +kernel, rfl, by decide +kernel, by decide +kernel⟩
abbrev s_Floor_piece : Stmt := inClass (topS 39) 1
theorem sc_Floor_piece : FnScope ["self", "number", "states", "found"] ["self", "number", "states"] (defScope s_Floor_piece) := ⟨rfl, rfl, rfl, by decide +kernel, rfl, by decide +kernel, by decide +kernel⟩
def spPieceI (CI : Addr) : Sp := fun vs H Q _ => ∃ (B : Hp) (p dx : Addr) (z : Str), vs = [.ref p, .str z] ∧ Ok ⟨B, H, [p]⟩ B [(p, .ins CI dx [])] H ∧ ∀ l pp H', Ok ⟨B, H, [p]⟩ B (pcC CI ⟨p, dx, l, pp, newPc z⟩) H' → Q .non H'
def spFInit (K : PySem.W.Frag) (CP CF CL CI : Addr) : Sp := fun vs H Q _ => ∃ (B : Hp) (f dx : Addr) (v rv : V) (rs : List PRow) (rates : List Int), vs = [.ref f, v, rv] ∧ Ok ⟨B, H, [f]⟩ B [(f, .ins CF dx [])] H ∧ Dpl K B v (rs.map encRow) ∧ GoodBook rs ∧ Stays K ⟨B, H, [f]⟩ B rv (rates.map V.int) ∧ rates.length = 6 ∧ (∀ x ∈ rates, 0 ≤ x ∧ x ≤ 99) ∧
  ∀ A B' H', Ex B B' → Ok ⟨B, H, [f]⟩ B' (FL CF CL CI A) H' → FB K CP B' A → A.st = Fl.new rs rates → A.f = f → Q .non H'
def spPiece (K : PySem.W.Frag) (CF CI : Addr) : Sp := fun vs H Q _ => ∃ (A : AFl) (k : Nat) (P : APc) (a : Addr) (ss : List Str), vs = [.ref A.f, .int (k : Int), .ref a] ∧ H A.f = some (.ins CF A.dx (flF A)) ∧ H A.pa = some (.lst (A.pcs.map fun P => .ref P.a)) ∧ A.pcs[k]? = some P ∧ H P.a = some (.ins CI P.dx (pcF P)) ∧
  SqT K H a (ss.map V.str) ∧ P.s.state ∈ ss ∧ A.pcs.length ≤ 10000 ∧ Q (.ref P.a) H
section
variable {P : Program} {w : World} {K : PySem.W.Frag} {mg : Str → Option Value} {base : Heap}
theorem ok_piece_init {f CP CF CL CI : Addr} {fd : FuncData} (F : Fun K "__init__" "Piece.__init__" s_Piece___init__ f fd) (fk : FlK K CP CF CL CI) (c_MAKING : GlS mg "MAKING" "making") : FnOk P w K mg base CX0 1 f fd ["self", "part"] (spPieceI CI) := by
  obtain ⟨cP, cF, cL, cI, a1, a2, b1, b2, b3, b4, b5, b6, b7, c1, c2, c3, d1, d2, d3, d4, d5, d6, d7, d8⟩ := fk
  refine F.ok sc_Piece___init__ (fun vs H Q E h => ?_) (fun cdv A outer s H vs Q E hr h => ?_)
  · obtain ⟨B, p, dx, z, rfl, _⟩ := h
    rfl
  · obtain ⟨B, p, dx, z, rfl, S, k⟩ := h
    refine with_al (P := P) (w := w) (K := K) hr (fun al => ?_)
    refine ⟨_, (pss_cons (ps_fldK K (pv 0) (pv 1) rfl) (pss_cons (ps_fldK K (pv 0) (pe_gs c_MAKING rfl) rfl) (pss_cons (ps_fldK K (pv 0) pe_int rfl) (pss_cons (ps_fldK K (pv 0) pe_int rfl) (pss_cons (ps_fldK K (pv 0) pe_dnewK rfl) (pss_cons (ps_fldK K (pv 0) (pe_lst pa_nil) rfl) (pss_cons (ps_fldK K (pv 0) pe_non rfl) (pss_one (ps_fldK K (pv 0) pe_non rfl))))))))), ?_⟩
    repeat tb_start
    refine sfdQ 0 S rfl cI d1 (by decide) rfl fun H1 S1 => ?_
    repeat tb_start
    refine sfdQ 0 S1 rfl cI d2 (by show 1 < 1000; decide) rfl fun H2 S2 => ?_
    repeat tb_start
    refine sfdQ 0 S2 rfl cI d3 (by show 2 < 1000; decide) rfl fun H3 S3 => ?_
    repeat tb_start
    refine sfdQ 0 S3 rfl cI d4 (by show 3 < 1000; decide) rfl fun H4 S4 => ?_
    repeat tb_start
    refine new_dK S4 fun l H5 S5 => ?_
    repeat tb_start
    refine sfdQ 1 S5 rfl cI d5 (by show 4 < 1000; decide) rfl fun H6 S6 => ?_
    repeat tb_start
    refine new_lst S6 (by decide) fun pp H7 S7 => ?_
    repeat tb_start
    refine sfdQ 2 S7 rfl cI d6 (by show 5 < 1000; decide) rfl fun H8 S8 => ?_
    repeat tb_start
    refine sfdQ 2 S8 rfl cI d7 (by show 6 < 1000; decide) rfl fun H9 S9 => ?_
    repeat tb_start
    refine sfdQ 2 S9 rfl cI d8 (by show 7 < 1000; decide) rfl fun H10 S10 => ?_
    exact k l pp _ (S10.pick [2, 1, 0] (by decide))
theorem ok_floor_init {f CP CF CL CI : Addr} {fd : FuncData} (F : Fun K "__init__" "Floor.__init__" s_Floor___init__ f fd) (G_Parts : MkG P w K mg base 3 CP "Parts" ["self", "told"] (spPInit K CP)) (G_need_many : FnG P w K mg base 1 "need_many" ["number", "low", "high"] spNeedMany) (fk : FlK K CP CF CL CI)
    (n_len : mg "len" = none) (n_tuple : mg "tuple" = none) (c_MACHINES : GlI mg "MACHINES" 6) (c_MOST_RATE : GlI mg "MOST_RATE" 99) : FnOk P w K mg base CX0 5 f fd ["self", "parts", "rates"] (spFInit K CP CF CL CI) := by
  obtain ⟨cP, cF, cL, cI, a1, a2, b1, b2, b3, b4, b5, b6, b7, c1, c2, c3, d1, d2, d3, d4, d5, d6, d7, d8⟩ := fk
  refine F.ok sc_Floor___init__ (fun vs H Q E h => ?_) (fun cdv A outer s H vs Q E hr h => ?_)
  · obtain ⟨B, p, dx, v, rv, rs, rates, rfl, _⟩ := h
    rfl
  · obtain ⟨B, p, dx, v, rv, rs, rates, rfl, S, hv, G, ⟨ra, rfl, hst⟩, h6, hb, k⟩ := h
    refine with_al (P := P) (w := w) (K := K) hr (fun al => ?_)
    refine ⟨_, (pss_cons (ps_fldK K (pv 0) (pe_mk G_Parts (hr.mono (by first | decide | omega)) rfl (pa_cons (pv 1) pa_nil)) rfl) (pss_cons (ps_cut (ps_if (pt_cmpR (opU al) (pe_callB (callU al) (by rfl) n_len b_len (pa_cons (pv 2) pa_nil)) (pe_gi c_MACHINES rfl) (nomark _)) (pss_one ps_never) pss_nil)) (pss_cons (ps_cut (ps_for PassesOwn.never rfl (pi_val al (pv 2)) (pg_name (i := 3) sc_Floor___init__.nd rfl (by first | exact Or.inl rfl | exact Or.inr rfl)) (pss_one (ps_expr (pe_fn G_need_many (hr.mono (by first | decide | omega)) rfl (pa_cons (pv 3) (pa_cons pe_int (pa_cons (pe_gi c_MOST_RATE rfl) pa_nil)))))))) (pss_cons (ps_cut (ps_fldK K (pv 0) (pe_callTy (callU al) (by rfl) n_tuple b_tuple (pa_cons (pv 2) pa_nil)) rfl)) (pss_cons (ps_fldK K (pv 0) (pe_lst pa_nil) rfl) (pss_cons (ps_fldK K (pv 0) (pe_lst pa_nil) rfl) (pss_cons (ps_fldK K (pv 0) (pe_lst pa_nil) rfl) (pss_cons (ps_fldK K (pv 0) pe_int rfl) (pss_one (ps_fldK K (pv 0) pe_int rfl)))))))))), ?_⟩
    repeat tb_start
    refine mkQ S fun x dx1 H1 S1 => ?_
    refine ⟨B, x, dx1, v, rs, rfl, S1.sub (L1 := [_]), hv, G, fun a l rkv lkv B2 H2 e2 RK LK T2 => retQ ?_⟩
    have S2 : Ok ⟨B, H, [p]⟩ B2 [(l, .dK lkv), (a, .dK rkv), (x, .ins CP dx1 (fldsP a l)), (p, .ins CF dx [])] H2 := S1.call (L1 := [_]) (L2 := [_]) T2
    obtain ⟨B3, e3, bk, S3⟩ : ∃ B3, Ex B2 B3 ∧ BookAt K CP B3 x rs ∧ Ok ⟨B, H, [p]⟩ B3 [(p, .ins CF dx [])] H2 := by
      have f1 := S2.exF
      have S2a := S2.freeze
      have f2 := S2a.exF
      have S2b := S2a.freeze
      have f3 := S2b.exF
      have S2c := S2b.freeze
      refine ⟨_, f1.trans (f2.trans f3), ⟨dx1, a, l, rkv, lkv, upd_same, f3 _ _ upd_same, f3 _ _ (f2 _ _ upd_same), RK.up (f1.trans (f2.trans f3)), LK.up (f1.trans (f2.trans f3))⟩, S2c⟩
    clear S2 S1 T2
    have e03 : Ex B B3 := e2.trans e3
    repeat tb_start
    refine sfdQ 0 S3 rfl cF b1 (by decide) rfl fun H4 S4 => ?_
    repeat tb_start
    have S5 : Ok ⟨B, H, [p]⟩ B3 [(p, .ins CF dx [("book", .ref x)])] H4 := S4
    clear S4 S3
    have hlen : (rates.map V.int).length = 6 := by rw [List.length_map]; exact h6
    refine cutS (fun σ' H' => (∃ yy3, σ' = [some (.ref p), some (v), some (.ref ra), yy3]) ∧ Ok ⟨B, H, [p]⟩ B3 [(p, .ins CF dx [("book", .ref x)])] H') ?_ ?_
    · repeat tb_start
      rcases hst with hst | hst
      · refine v_lenL (hst _ _ _ e03 S5) ?_
        rw [hlen]
        repeat tb_start
        exact ⟨⟨_, rfl⟩, S5⟩
      · refine v_lenT (S5.tqB (e03.sqT hst)) ?_
        rw [hlen]
        repeat tb_start
        exact ⟨⟨_, rfl⟩, S5⟩
    rintro σ6 H6 ⟨⟨_, rfl⟩, S6⟩
    repeat tb_start
    refine cutS (fun σ' H' => (∃ yy3, σ' = [some (.ref p), some (v), some (.ref ra), yy3]) ∧ Ok ⟨B, H, [p]⟩ B3 [(p, .ins CF dx [("book", .ref x)])] H') ?_ ?_
    · have turn : ∀ (i : Nat) (y : V), (rates.map V.int)[i]? = some y → ∃ z : Int, y = .int z ∧ 0 ≤ z ∧ z ≤ 99 := fun i y hy => by
        rw [List.getElem?_map] at hy
        obtain ⟨z, h1, rfl⟩ := Option.map_eq_some_iff.mp hy
        exact ⟨z, rfl, hb z (List.mem_of_getElem? h1)⟩
      repeat tb_start
      rcases hst with hst | hst
      · refine forL (hst _ _ _ e03 S6) (fun i σ H' => (∃ yy3, σ = [some (.ref p), some (v), some (.ref ra), yy3]) ∧ Ok ⟨B, H, [p]⟩ B3 [(p, .ins CF dx [("book", .ref x)])] H') ?_ ?_ ?_ ?_
        · rintro i σ H7 _ ⟨⟨_, rfl⟩, S7⟩
          exact hst _ _ _ e03 S7
        · exact ⟨⟨_, rfl⟩, S6⟩
        · rintro i y σ H7 hy ⟨⟨_, rfl⟩, S7⟩
          obtain ⟨z, rfl, z0, z1⟩ := turn i y hy
          repeat tb_start
          refine ⟨z, 0, 99, rfl, z0, z1, ?_⟩
          exact ⟨⟨_, rfl⟩, S7⟩
        · rintro σ H7 ⟨⟨_, rfl⟩, S7⟩
          exact ⟨⟨_, rfl⟩, S7⟩
      · refine forT (S6.tqB (e03.sqT hst)) (fun i σ H' => (∃ yy3, σ = [some (.ref p), some (v), some (.ref ra), yy3]) ∧ Ok ⟨B, H, [p]⟩ B3 [(p, .ins CF dx [("book", .ref x)])] H') ?_ ?_ ?_ ?_
        · rintro i σ H7 _ ⟨⟨_, rfl⟩, S7⟩
          exact S7.tqB (e03.sqT hst)
        · exact ⟨⟨_, rfl⟩, S6⟩
        · rintro i y σ H7 hy ⟨⟨_, rfl⟩, S7⟩
          obtain ⟨z, rfl, z0, z1⟩ := turn i y hy
          repeat tb_start
          refine ⟨z, 0, 99, rfl, z0, z1, ?_⟩
          exact ⟨⟨_, rfl⟩, S7⟩
        · rintro σ H7 ⟨⟨_, rfl⟩, S7⟩
          exact ⟨⟨_, rfl⟩, S7⟩
    rintro σ7 H7 ⟨⟨_, rfl⟩, S7⟩
    repeat tb_start
    refine cutS (fun σ' H' => (∃ yy3, σ' = [some (.ref p), some (v), some (.ref ra), yy3]) ∧ ∃ B' rt, Ex B3 B' ∧ Dp K B' rt (.tuple (rates.map PyData.int)) ∧ Ok ⟨B, H, [p]⟩ B' [(p, .ins CF dx [("book", .ref x), ("rates", rt)])] H') ?_ ?_
    · repeat tb_start
      rcases hst with hst | hst
      · refine v_tupleL S7 (hst _ _ _ e03 S7) fun t B8 H8 e8 ht S8 => ?_
        repeat tb_start
        refine sfdQ 0 S8 rfl cF b2 (by show 1 < 1000; decide) rfl fun H9 S9 => ?_
        exact ⟨⟨_, rfl⟩, _, _, e8, Dp.ofTup ht (dpInts _), S9⟩
      · refine v_tupleT (S7.tqB (e03.sqT hst)) ?_
        repeat tb_start
        refine sfdQ 0 S7 rfl cF b2 (by show 1 < 1000; decide) rfl fun H9 S9 => ?_
        exact ⟨⟨_, rfl⟩, _, _, Ex.refl _, .tup (e03.sqT hst) (dpInts _), S9⟩
    rintro σ8 H8 ⟨⟨_, rfl⟩, B8, rt, e8, hrt, S8⟩
    repeat tb_start
    refine new_lst S8 (by decide) fun la H9 S9 => ?_
    repeat tb_start
    refine sfdQ 1 S9 rfl cF b3 (by show 2 < 1000; decide) rfl fun H10 S10 => ?_
    repeat tb_start
    refine new_lst S10 (by decide) fun pa H11 S11 => ?_
    repeat tb_start
    refine sfdQ 2 S11 rfl cF b4 (by show 3 < 1000; decide) rfl fun H12 S12 => ?_
    repeat tb_start
    refine new_lst S12 (by decide) fun na H13 S13 => ?_
    repeat tb_start
    refine sfdQ 3 S13 rfl cF b5 (by show 4 < 1000; decide) rfl fun H14 S14 => ?_
    repeat tb_start
    refine sfdQ 3 S14 rfl cF b6 (by show 5 < 1000; decide) rfl fun H15 S15 => ?_
    repeat tb_start
    refine sfdQ 3 S15 rfl cF b7 (by show 6 < 1000; decide) rfl fun H16 S16 => ?_
    refine k ⟨p, dx, x, la, pa, na, rt, [], rs, rates, [], [], [], 0, 0⟩ B8 H16 (e03.trans e8) (S16.pick [3, 2, 1, 0] (by decide)) ⟨bk.up e8, hrt, .nil, G, h6, Nat.zero_le _⟩ rfl rfl
theorem ok_piece {f CP CF CL CI : Addr} {fd : FuncData} (F : Fun K "piece" "Floor.piece" s_Floor_piece f fd) (fk : FlK K CP CF CL CI) (n_len : mg "len" = none) : FnOk P w K mg base CX0 1 f fd ["self", "number", "states"] (spPiece K CF CI) := by
  obtain ⟨cP, cF, cL, cI, a1, a2, b1, b2, b3, b4, b5, b6, b7, c1, c2, c3, d1, d2, d3, d4, d5, d6, d7, d8⟩ := fk
  refine F.ok sc_Floor_piece (fun vs H Q E h => ?_) (fun cdv A outer s H vs Q E hr h => ?_)
  · obtain ⟨A, k, P, a, ss, rfl, _⟩ := h
    rfl
  · obtain ⟨A, j, Pc, a, ss, rfl, hF, hL, hP, hPa, hs, hm, hle, k⟩ := h
    have hj : j < A.pcs.length := (List.getElem?_eq_some_iff.mp hP).1
    have hsl : SqL K H A.pa (A.pcs.map fun P => .ref P.a) := .inl (.inl hL)
    refine with_al (P := P) (w := w) (K := K) hr (fun al => ?_)
    refine ⟨_, (pss_cons (ps_if (pt_not (pt_chain (opU al) (opU al) pe_int (pv 1) (pe_callB (callU al) (by rfl) n_len b_len (pa_cons (pe_fldU K (pv 0) rfl) pa_nil)))) (pss_one ps_never) pss_nil) (pss_cons (ps_asg (pe_ix (ixU al) (pe_fldU K (pv 0) rfl) (pv 1) (fun _ _ => rfl)) (pg_name (i := 3) sc_Floor_piece.nd rfl (by first | exact Or.inl rfl | exact Or.inr rfl))) (pss_cons (ps_if (pt_cmpR (opU al) (pe_fldU K (pv 3) rfl) (pv 2) rfl) (pss_one ps_never) pss_nil) (pss_one (ps_ret (pv 3)))))), ?_⟩
    repeat tb_start
    refine v_ixL hsl (atI_nat (by rw [List.getElem?_map, hP]; rfl)) ?_
    repeat tb_start
    refine v_notInT hs ?_
    rw [decide_eq_true hm]
    repeat tb_start
    exact k
end
end LW

namespace LW
open PySem PySem.Spec PyProof.Rows L2 WK PM
abbrev s_Floor_work : Stmt := inClass (topS 39) 9
theorem sc_Floor_work : FnScope ["self", "number", "piece", "machine", "minutes"] ["self", "number"] (defScope s_Floor_work) := ⟨rfl, rfl, rfl, by decide +kernel, rfl, by decide +kernel, by decide +kernel⟩
abbrev s_Floor_test : Stmt := inClass (topS 39) 10
theorem sc_Floor_test : FnScope ["self", "number", "good", "piece"] ["self", "number", "good"] (defScope s_Floor_test) := ⟨rfl, rfl, rfl, by decide +kernel, rfl, by decide +kernel, by decide +kernel⟩
abbrev s_Floor_rework : Stmt := inClass (topS 39) 11
abbrev s_Floor_scrap : Stmt := inClass (topS 39) 13
theorem sc_Floor_scrap : FnScope ["self", "number", "piece"] ["self", "number"] (defScope s_Floor_scrap) := ⟨rfl, rfl, rfl, by decide +kernel, rfl, by decide +kernel, by decide +kernel⟩
abbrev s_Floor_back : Stmt := inClass (topS 39) 16
abbrev s_Floor_state_of : Stmt := inClass (topS 39) 17
theorem sc_Floor_state_of : FnScope ["self", "number"] ["self", "number"] (defScope s_Floor_state_of) := ⟨rfl, rfl, rfl, by decide +kernel, rfl, by decide +kernel, by decide +kernel⟩
/-- what comes of a deed: the floor stands as told -/
def DoneQ (K : PySem.W.Frag) (CP CF CL CI : Addr) (B H : Hp) (A : AFl) (st' : Fl) (Q : Hp → Prop) : Prop := ∀ A' B' H', Ex B B' → Ok ⟨B, H, (FL CF CL CI A).map (·.1)⟩ B' (FL CF CL CI A') H' → FB K CP B' A' → A'.st = st' → A'.f = A.f → Q H'
structure FS (K : PySem.W.Frag) (CP CF CL CI : Addr) (B H : Hp) (A : AFl) : Prop where
  ok : Ok ⟨B, H, (FL CF CL CI A).map (·.1)⟩ B (FL CF CL CI A) H
  fb : FB K CP B A
  few : A.book.length < 10000
def spWork (K : PySem.W.Frag) (CP CF CL CI : Addr) : Sp := fun vs H Q _ => ∃ (B : Hp) (A : AFl) (k : Nat) (P : APc) (r : PRow) (j mc : Nat) (mi rate : Int), vs = [.ref A.f, .int (k : Int)] ∧ FS K CP CF CL CI B H A ∧ A.pcs[k]? = some P ∧ P.s.state = "making" ∧ PM.rowOf A.rs P.s.part = some r ∧ P.s.at_ = (j : Int) ∧ r.steps[j]? = some ((mc : Int), mi) ∧ A.rates[mc]? = some rate ∧
  DoneQ K CP CF CL CI B H A (A.st.work k P.s (mi * rate) r.steps.length) (Q (.int mi))
def spTest (K : PySem.W.Frag) (CP CF CL CI : Addr) : Sp := fun vs H Q _ => ∃ (B : Hp) (A : AFl) (k : Nat) (P : APc) (g : Bool), vs = [.ref A.f, .int (k : Int), .bl g] ∧ FS K CP CF CL CI B H A ∧ A.pcs[k]? = some P ∧ (P.s.state = "made" ∨ P.s.state = "stock") ∧
  DoneQ K CP CF CL CI B H A (A.st.put k { P.s with state := if g = true then "stock" else "bad" } (.test k g)) (Q .non)
def spRework (K : PySem.W.Frag) (CP CF CL CI : Addr) : Sp := fun vs H Q _ => ∃ (B : Hp) (A : AFl) (k : Nat) (P : APc) (r : PRow) (a : Int), vs = [.ref A.f, .int (k : Int), .int a] ∧ FS K CP CF CL CI B H A ∧ A.pcs[k]? = some P ∧ P.s.state = "bad" ∧ PM.rowOf A.rs P.s.part = some r ∧ 0 ≤ a ∧ a < r.steps.length ∧
  DoneQ K CP CF CL CI B H A (A.st.put k { P.s with state := "making", at_ := a } (.rework k a)) (Q .non)
abbrev house : List Str := ["making", "made", "bad", "stock"]
def spScrap (K : PySem.W.Frag) (CP CF CL CI : Addr) : Sp := fun vs H Q _ => ∃ (B : Hp) (A : AFl) (k : Nat) (P : APc), vs = [.ref A.f, .int (k : Int)] ∧ FS K CP CF CL CI B H A ∧ A.pcs[k]? = some P ∧ P.s.state ∈ house ∧
  DoneQ K CP CF CL CI B H A (A.st.put k { P.s with state := "scrap" } (.scrap k)) (Q .non)
def spBack (K : PySem.W.Frag) (CP CF CL CI : Addr) : Sp := fun vs H Q _ => ∃ (B : Hp) (A : AFl) (k : Nat) (P : APc), vs = [.ref A.f, .int (k : Int)] ∧ FS K CP CF CL CI B H A ∧ A.pcs[k]? = some P ∧ P.s.state = "sold" ∧
  DoneQ K CP CF CL CI B H A (A.st.put k { P.s with state := "made", client := none } (.back k)) (Q .non)
abbrev allStates : List Str := ["making", "made", "bad", "stock", "within", "sold", "scrap", "stripped"]
/-- a look at a floor -/
def LookQ (K : PySem.W.Frag) (CF CL CI : Addr) (B H : Hp) (A : AFl) (Q : Hp → Prop) : Prop := ∀ B' H', Ex B B' → Ok ⟨B, H, (FL CF CL CI A).map (·.1)⟩ B' (FL CF CL CI A) H' → Q H'
def spStateOf (K : PySem.W.Frag) (CP CF CL CI : Addr) : Sp := fun vs H Q _ => ∃ (B : Hp) (A : AFl) (k : Nat) (P : APc), vs = [.ref A.f, .int (k : Int)] ∧ Ok ⟨B, H, (FL CF CL CI A).map (·.1)⟩ B (FL CF CL CI A) H ∧ A.pcs.length ≤ 10000 ∧ A.pcs[k]? = some P ∧ P.s.state ∈ allStates ∧ LookQ K CF CL CI B H A (Q (.str P.s.state))
theorem st_put {A : AFl} {k : Nat} {P' : APc} {nv : List V} {d : Deed} {p : Pc} (h : P'.s = p) : AFl.st { A with pcs := A.pcs.set k P', nv := nv, book := A.book ++ [d] } = A.st.put k p d := by
  subst h
  unfold AFl.st Fl.put
  dsimp only
  rw [List.map_set]
theorem fb_put {K : PySem.W.Frag} {CP : Addr} {B B' : Hp} {A A' : AFl} {d : Deed} {v : V} (fb : FB K CP B A) (e : Ex B B') (hv : Dp K B' v (encDeed d)) (h1 : A'.bk = A.bk) (h2 : A'.rt = A.rt) (h3 : A'.rs = A.rs) (h4 : A'.rates = A.rates) (h5 : A'.nv = A.nv ++ [v]) (h6 : A'.book = A.book ++ [d]) (h7 : A'.lots.length + A'.pcs.length ≤ A.lots.length + A.pcs.length + 1) : FB K CP B' A' := by
  have fb' := fb.up e
  refine ⟨by rw [h1, h3]; exact fb'.book, by rw [h2, h4]; exact fb'.rates, ?_, by rw [h3]; exact fb.good, by rw [h4]; exact fb.six, ?_⟩
  · rw [h5, h6, List.map_append]
    exact fb'.notes.append (.cons hv .nil)
  · have := fb.few
    rw [h6, List.length_append, List.length_singleton]
    omega
theorem fb_set {K : PySem.W.Frag} {CP : Addr} {B B' : Hp} {A A' : AFl} {d : Deed} {v : V} (fb : FB K CP B A) (e : Ex B B') (hv : Dp K B' v (encDeed d)) (h1 : A'.bk = A.bk) (h2 : A'.rt = A.rt) (h3 : A'.rs = A.rs) (h4 : A'.rates = A.rates) (h5 : A'.nv = A.nv ++ [v]) (h6 : A'.book = A.book ++ [d]) (h7 : A'.lots.length = A.lots.length) (h8 : A'.pcs.length = A.pcs.length) : FB K CP B' A' :=
  fb_put fb e hv h1 h2 h3 h4 h5 h6 (by omega)
theorem nv_len {K : PySem.W.Frag} {CP : Addr} {B : Hp} {A : AFl} (fb : FB K CP B A) : A.nv.length = A.book.length := by
  have := fb.notes.length
  rwa [List.length_map] at this
theorem steps_good {rs : List PRow} (G : GoodBook rs) {z : Str} {r : PRow} (h : PM.rowOf rs z = some r) : r.steps.length ≤ 5 ∧ ∀ x ∈ r.steps, (0 ≤ x.1 ∧ x.1 < 6) ∧ 1 ≤ x.2 ∧ x.2 ≤ 99 := by
  obtain ⟨i, hi⟩ := List.getElem?_of_mem (rowOf_mem h).1
  have R := G.row i r hi
  exact ⟨R.few, R.steps⟩
section
variable {P : Program} {w : World} {K : PySem.W.Frag} {mg : Str → Option Value} {base : Heap}
theorem ok_work {f CP CF CL CI : Addr} {fd : FuncData} (F : Fun K "work" "Floor.work" s_Floor_work f fd) (G_piece : MtG P w K mg base 1 CF "piece" ["self", "number", "states"] (spPiece K CF CI)) (G_steps_of : MtG P w K mg base 1 CP "steps_of" ["self", "name"] (spStepsOf K CP)) (fk : FlK K CP CF CL CI)
    (n_len : mg "len" = none) (c_MAKING : GlS mg "MAKING" "making") (c_MADE : GlS mg "MADE" "made") : FnOk P w K mg base CX0 2 f fd ["self", "number"] (spWork K CP CF CL CI) := by
  obtain ⟨cP, cF, cL, cI, a1, a2, b1, b2, b3, b4, b5, b6, b7, c1, c2, c3, d1, d2, d3, d4, d5, d6, d7, d8⟩ := fk
  refine F.ok sc_Floor_work (fun vs H Q E h => ?_) (fun cdv A outer s H vs Q E hr h => ?_)
  · obtain ⟨B, A, k, P, r, j, mc, mi, rate, rfl, _⟩ := h
    rfl
  · obtain ⟨B, A, k, Pc, r, j, mc, mi, rate, rfl, ⟨S, fb, hfew⟩, hP, hst, hrow, hat, hstep, hrate, kk⟩ := h
    have hfew2 := fb.few
    have hnv := nv_len fb
    obtain ⟨sg1, sg2⟩ := steps_good fb.good hrow
    obtain ⟨_, m1, m2⟩ := sg2 _ (List.mem_of_getElem? hstep)
    have S0 := S.nil1
    have bk := fb.book
    obtain ⟨bdx, ba, bl, rkv, lkv, hb1, hb2, hb3, RK, LK⟩ := id bk
    refine with_al (P := P) (w := w) (K := K) hr (fun al => ?_)
    refine ⟨_, (pss_cons (ps_asg (pe_mth G_piece (hr.mono (by first | decide | omega)) (pv 0) (pa_cons (pv 1) (pa_cons (pe_tup (pa_cons (pe_gs c_MAKING rfl) pa_nil)) pa_nil))) (pg_name (i := 2) sc_Floor_work.nd rfl (by first | exact Or.inl rfl | exact Or.inr rfl))) (pss_cons (ps_asg (pe_ix (ixU al) (pe_mth G_steps_of (hr.mono (by first | decide | omega)) (pe_fldU K (pv 0) rfl) (pa_cons (pe_fldU K (pv 2) rfl) pa_nil)) (pe_fldU K (pv 2) rfl) (fun _ _ => rfl)) (pg_tupU (n := 2) K (pgs_cons (pg_name (i := 3) sc_Floor_work.nd rfl (by first | exact Or.inl rfl | exact Or.inr rfl)) (pgs_cons (pg_name (i := 4) sc_Floor_work.nd rfl (by first | exact Or.inl rfl | exact Or.inr rfl)) pgs_nil)))) (pss_cons (ps_augK K (pv 2) pe_int in_add) (pss_cons (ps_augK K (pv 2) (pe_op (opU al) (pv 4) (pe_ix (ixU al) (pe_fldU K (pv 0) rfl) (pv 3) (fun _ _ => rfl))) in_add) (pss_cons (ps_augK K (pv 0) (pe_op (opU al) (pv 4) (pe_ix (ixU al) (pe_fldU K (pv 0) rfl) (pv 3) (fun _ _ => rfl))) in_add) (pss_cons (ps_if (pt_cmpR (opU al) (pe_fldU K (pv 2) rfl) (pe_callB (callU al) (by rfl) n_len b_len (pa_cons (pe_mth G_steps_of (hr.mono (by first | decide | omega)) (pe_fldU K (pv 0) rfl) (pa_cons (pe_fldU K (pv 2) rfl) pa_nil)) pa_nil)) (nomark _)) (pss_one (ps_fldK K (pv 2) (pe_gs c_MADE rfl) rfl)) pss_nil) (pss_cons (ps_expr (pe_bmU K PySem.F.plainAttrs_list PySem.F.slot_list_append PySem.F.type_list_append (metU al) (pe_fldU K (pv 0) rfl) (pa_cons (pe_tup (pa_cons pe_str (pa_cons (pv 1) pa_nil))) pa_nil))) (pss_one (ps_ret (pv 4)))))))))), ?_⟩
    repeat tb_start
    refine new_tup S0 (by show 1 ≤ sizeLine; decide) fun t1 B1 H1 e1 ht1 S1 => ?_
    refine ⟨A, k, Pc, t1, ["making"], rfl, by kts_caught, by kts_caught, hP, by kts_caught, S1.tqStay ht1, by rw [hst]; decide, by omega, ?_⟩
    repeat tb_start
    refine ⟨B1, A.bk, A.rs, r, Pc.s.part, rfl, S1.ex, bk.up e1, hrow, fun v hv => ?_⟩
    repeat tb_start
    rw [hat]
    refine v_ixDT (j := j) S1 hv rfl (by rw [List.getElem?_map, hstep]; rfl) fun u hu => ?_
    refine r_gtupII S1 hu ?_
    repeat tb_start
    let P1 : APc := { Pc with s := { Pc.s with at_ := Pc.s.at_ + 1 } }
    have hk : k < A.pcs.length := (List.getElem?_eq_some_iff.mp hP).1
    refine afP S1 hP P1 ⟨rfl, rfl, rfl, rfl, rfl⟩ rfl fun H2 S2 => ?_
    have hP1 : ({ A with pcs := A.pcs.set k P1 } : AFl).pcs[k]? = some P1 := List.getElem?_set_self hk
    repeat tb_start
    refine v_ixDT (j := mc) S2 (fb.rates.up e1) rfl (by rw [List.getElem?_map, hrate]; rfl) fun u2 hu2 => ?_
    obtain rfl := hu2.int_inv
    repeat tb_start
    let P2 : APc := { P1 with s := { P1.s with cost := Pc.s.cost + mi * rate, own := Pc.s.own + mi * rate } }
    refine afP (P := P1) S2 hP1 P2 ⟨rfl, rfl, rfl, rfl, rfl⟩ rfl fun H3 S3 => ?_
    rw [List.set_set] at S3
    have hP2 : ({ A with pcs := A.pcs.set k P2 } : AFl).pcs[k]? = some P2 := List.getElem?_set_self hk
    repeat tb_start
    refine v_ixDT (j := mc) S3 (fb.rates.up e1) rfl (by rw [List.getElem?_map, hrate]; rfl) fun u3 hu3 => ?_
    obtain rfl := hu3.int_inv
    repeat tb_start
    refine afSpent (A := { A with pcs := A.pcs.set k P2 }) S3 fun H4 S4 => ?_
    have hP3 : ({ A with pcs := A.pcs.set k P2, spent := A.spent + mi * rate } : AFl).pcs[k]? = some P2 := hP2
    repeat tb_start
    refine ⟨B1, A.bk, A.rs, r, Pc.s.part, rfl, S4.ex, bk.up e1, hrow, fun v5 hv5 => ?_⟩
    repeat tb_start
    rw [List.length_map]
    refine ifd (fun hh => ?_) (fun hh => ?_)
    · repeat tb_start
      let P5 : APc := { P2 with s := { P2.s with state := "made" } }
      refine sfdP (P := P2) S4 hP3 cI d2 P5 ⟨rfl, rfl, rfl, rfl, rfl⟩ rfl fun H5 S5 => ?_
      dsimp only at S5
      rw [List.set_set] at S5
      repeat tb_start
      refine new_tup S5 (by show 2 ≤ sizeLine; decide) fun t B6 H6 e6 ht S6 => ?_
      repeat tb_start
      refine v_note (A := { A with pcs := A.pcs.set k P5, spent := A.spent + mi * rate }) (.work k) S6 (by rw [sizeLine_eq]; show A.nv.length < _; omega) fun H7 S7 => ?_
      repeat tb_start
      refine kk _ B6 H7 (e1.trans e6) S7.nil2 (fb_set fb (e1.trans e6) (Dp.ofTup (ds := [.str "work", .int k]) ht (.cons (.str _) (.cons (.int _) .nil))) rfl rfl rfl rfl rfl rfl rfl List.length_set) ?_ rfl
      unfold AFl.st Fl.work
      dsimp only
      rw [List.map_set]
      unfold PM.Pc.work
      rw [if_pos hh]
    · repeat tb_start
      refine new_tup S4 (by show 2 ≤ sizeLine; decide) fun t B6 H6 e6 ht S6 => ?_
      repeat tb_start
      refine v_note (A := { A with pcs := A.pcs.set k P2, spent := A.spent + mi * rate }) (.work k) S6 (by rw [sizeLine_eq]; show A.nv.length < _; omega) fun H7 S7 => ?_
      repeat tb_start
      refine kk _ B6 H7 (e1.trans e6) S7.nil2 (fb_set fb (e1.trans e6) (Dp.ofTup (ds := [.str "work", .int k]) ht (.cons (.str _) (.cons (.int _) .nil))) rfl rfl rfl rfl rfl rfl rfl List.length_set) ?_ rfl
      unfold AFl.st Fl.work
      dsimp only
      rw [List.map_set]
      unfold PM.Pc.work
      rw [if_neg hh]
theorem ok_test {f CP CF CL CI : Addr} {fd : FuncData} (F : Fun K "test" "Floor.test" s_Floor_test f fd) (G_piece : MtG P w K mg base 1 CF "piece" ["self", "number", "states"] (spPiece K CF CI)) (fk : FlK K CP CF CL CI)
    (c_MADE : GlS mg "MADE" "made") (c_STOCK : GlS mg "STOCK" "stock") (c_BAD : GlS mg "BAD" "bad") : FnOk P w K mg base CX0 2 f fd ["self", "number", "good"] (spTest K CP CF CL CI) := by
  obtain ⟨cP, cF, cL, cI, a1, a2, b1, b2, b3, b4, b5, b6, b7, c1, c2, c3, d1, d2, d3, d4, d5, d6, d7, d8⟩ := fk
  refine F.ok sc_Floor_test (fun vs H Q E h => ?_) (fun cdv A outer s H vs Q E hr h => ?_)
  · obtain ⟨B, A, k, Pc, g, rfl, _⟩ := h
    rfl
  · obtain ⟨B, A, k, Pc, g, rfl, ⟨S, fb, hfew⟩, hP, hst, kk⟩ := h
    have hfew2 := fb.few
    have hnv := nv_len fb
    have S0 := S.nil1
    have hk := (List.getElem?_eq_some_iff.mp hP).1
    refine with_al (P := P) (w := w) (K := K) hr (fun al => ?_)
    refine ⟨_, (pss_cons (ps_asg (pe_mth G_piece (hr.mono (by first | decide | omega)) (pv 0) (pa_cons (pv 1) (pa_cons (pe_tup (pa_cons (pe_gs c_MADE rfl) (pa_cons (pe_gs c_STOCK rfl) pa_nil))) pa_nil))) (pg_name (i := 3) sc_Floor_test.nd rfl (by first | exact Or.inl rfl | exact Or.inr rfl))) (pss_cons (ps_fldK K (pv 3) (pe_ifExp (pt_val (pv 2)) (pe_gs c_STOCK rfl) (pe_gs c_BAD rfl)) rfl) (pss_one (ps_expr (pe_bmU K PySem.F.plainAttrs_list PySem.F.slot_list_append PySem.F.type_list_append (metU al) (pe_fldU K (pv 0) rfl) (pa_cons (pe_tup (pa_cons pe_str (pa_cons (pv 1) (pa_cons (pv 2) pa_nil)))) pa_nil)))))), ?_⟩
    repeat tb_start
    refine new_tup S0 (by show 2 ≤ sizeLine; decide) fun t1 B1 H1 e1 ht1 S1 => ?_
    refine ⟨A, k, Pc, t1, ["made", "stock"], rfl, by kts_caught, by kts_caught, hP, by kts_caught, S1.tqStay ht1, (by rcases hst with h | h <;> rw [h] <;> decide), by omega, ?_⟩
    repeat tb_start
    have key : ∀ z : Str, z = (if g = true then ("stock" : Str) else "bad") → ∀ (D : Ends) (σ : L2.St), (∀ H', Ok ⟨B, H, (FL CF CL CI A).map (·.1)⟩ B1 (FL CF CL CI { A with pcs := A.pcs.set k { Pc with s := { Pc.s with state := if g = true then "stock" else "bad" } } } ++ []) H' → D.nx σ H') → SFdQ K "state" (.str z) D σ (.ref Pc.a) H1 := fun z hz D σ h =>
      sfdP S1 hP cI d2 { Pc with s := { Pc.s with state := if g = true then "stock" else "bad" } } ⟨rfl, rfl, rfl, rfl, rfl⟩ (by rw [hz]; rfl) h
    refine ifb (fun hg => ?_) (fun hg => ?_)
    all_goals
      repeat tb_start
      refine key _ (by rw [hg]; rfl) _ _ fun H2 S2 => ?_
      repeat tb_start
      refine new_tup S2 (by show 3 ≤ sizeLine; decide) fun t B6 H6 e6 ht S6 => ?_
      repeat tb_start
      refine v_note (A := { A with pcs := A.pcs.set k { Pc with s := { Pc.s with state := if g = true then "stock" else "bad" } } }) (.test k g) S6 (by rw [sizeLine_eq]; show A.nv.length < _; omega) fun H7 S7 => ?_
      repeat tb_start
      refine kk _ B6 H7 (e1.trans e6) S7.nil2 (fb_set fb (e1.trans e6) (Dp.ofTup (ds := [.str "test", .int k, .bool g]) ht (.cons (.str _) (.cons (.int _) (.cons (.bl _) (.nil))))) rfl rfl rfl rfl rfl rfl rfl List.length_set) (st_put (A := A) (P' := { Pc with s := { Pc.s with state := if g = true then "stock" else "bad" } }) rfl) rfl
theorem ok_scrap {f CP CF CL CI TH : Addr} {fd : FuncData} (F : Fun K "scrap" "Floor.scrap" s_Floor_scrap f fd) (G_piece : MtG P w K mg base 1 CF "piece" ["self", "number", "states"] (spPiece K CF CI)) (fk : FlK K CP CF CL CI)
    (c_HOUSE : GlV mg "HOUSE" (.ref TH)) (hTH : ∀ H, SqT K H TH (house.map V.str)) (c_SCRAP : GlS mg "SCRAP" "scrap") : FnOk P w K mg base CX0 2 f fd ["self", "number"] (spScrap K CP CF CL CI) := by
  obtain ⟨cP, cF, cL, cI, a1, a2, b1, b2, b3, b4, b5, b6, b7, c1, c2, c3, d1, d2, d3, d4, d5, d6, d7, d8⟩ := fk
  refine F.ok sc_Floor_scrap (fun vs H Q E h => ?_) (fun cdv A outer s H vs Q E hr h => ?_)
  · obtain ⟨B, A, k, Pc, rfl, _⟩ := h
    rfl
  · obtain ⟨B, A, k, Pc, rfl, ⟨S, fb, hfew⟩, hP, hst, kk⟩ := h
    have hfew2 := fb.few
    have hnv := nv_len fb
    have S0 := S.nil1
    have hk := (List.getElem?_eq_some_iff.mp hP).1
    refine with_al (P := P) (w := w) (K := K) hr (fun al => ?_)
    refine ⟨_, (pss_cons (ps_asg (pe_mth G_piece (hr.mono (by first | decide | omega)) (pv 0) (pa_cons (pv 1) (pa_cons (pe_gv c_HOUSE rfl) pa_nil))) (pg_name (i := 2) sc_Floor_scrap.nd rfl (by first | exact Or.inl rfl | exact Or.inr rfl))) (pss_cons (ps_fldK K (pv 2) (pe_gs c_SCRAP rfl) rfl) (pss_one (ps_expr (pe_bmU K PySem.F.plainAttrs_list PySem.F.slot_list_append PySem.F.type_list_append (metU al) (pe_fldU K (pv 0) rfl) (pa_cons (pe_tup (pa_cons pe_str (pa_cons (pv 1) pa_nil))) pa_nil)))))), ?_⟩
    repeat tb_start
    refine ⟨A, k, Pc, TH, house, rfl, by kts_caught, by kts_caught, hP, by kts_caught, hTH _, hst, by omega, ?_⟩
    repeat tb_start
    have e1 : Ex B B := Ex.refl B
    let P1 : APc := { Pc with s := { Pc.s with state := "scrap" } }
    refine sfdP S0 hP cI d2 P1 ⟨rfl, rfl, rfl, rfl, rfl⟩ rfl fun H2 S2 => ?_
    repeat tb_start
    refine new_tup S2 (by show 2 ≤ sizeLine; decide) fun t B6 H6 e6 ht S6 => ?_
    repeat tb_start
    refine v_note (A := { A with pcs := A.pcs.set k P1 }) (.scrap k) S6 (by rw [sizeLine_eq]; show A.nv.length < _; omega) fun H7 S7 => ?_
    repeat tb_start
    refine kk _ B6 H7 (e1.trans e6) S7.nil2 (fb_set fb (e1.trans e6) (Dp.ofTup (ds := [.str "scrap", .int k]) ht (.cons (.str _) (.cons (.int _) (.nil)))) rfl rfl rfl rfl rfl rfl rfl List.length_set) (st_put (A := A) (P' := P1) rfl) rfl
theorem ok_state_of {f CP CF CL CI TH : Addr} {fd : FuncData} (F : Fun K "state_of" "Floor.state_of" s_Floor_state_of f fd) (G_piece : MtG P w K mg base 1 CF "piece" ["self", "number", "states"] (spPiece K CF CI)) (fk : FlK K CP CF CL CI)
    (c_HOUSE : GlV mg "HOUSE" (.ref TH)) (hTH : ∀ H, SqT K H TH (house.map V.str)) (c_WITHIN : GlS mg "WITHIN" "within") (c_SOLD : GlS mg "SOLD" "sold") (c_SCRAP : GlS mg "SCRAP" "scrap") (c_STRIPPED : GlS mg "STRIPPED" "stripped") : FnOk P w K mg base CX0 2 f fd ["self", "number"] (spStateOf K CP CF CL CI) := by
  obtain ⟨cP, cF, cL, cI, a1, a2, b1, b2, b3, b4, b5, b6, b7, c1, c2, c3, d1, d2, d3, d4, d5, d6, d7, d8⟩ := fk
  refine F.ok sc_Floor_state_of (fun vs H Q E h => ?_) (fun cdv A outer s H vs Q E hr h => ?_)
  · obtain ⟨B, A, k, Pc, rfl, _⟩ := h
    rfl
  · obtain ⟨B, A, k, Pc, rfl, S, hfew, hP, hst, kk⟩ := h
    have S0 := S.nil1
    have hk := (List.getElem?_eq_some_iff.mp hP).1
    refine with_al (P := P) (w := w) (K := K) hr (fun al => ?_)
    refine ⟨_, (pss_cons (ps_expr (pe_mth G_piece (hr.mono (by first | decide | omega)) (pv 0) (pa_cons (pv 1) (pa_cons (pe_op (opU al) (pe_gv c_HOUSE rfl) (pe_tup (pa_cons (pe_gs c_WITHIN rfl) (pa_cons (pe_gs c_SOLD rfl) (pa_cons (pe_gs c_SCRAP rfl) (pa_cons (pe_gs c_STRIPPED rfl) pa_nil)))))) pa_nil)))) (pss_one (ps_ret (pe_fldU K (pe_ix (ixU al) (pe_fldU K (pv 0) rfl) (pv 1) (fun _ _ => rfl)) rfl)))), ?_⟩
    repeat tb_start
    refine new_tup S0 (by show 4 ≤ sizeLine; decide) fun t1 B1 H1 e1 ht1 S1 => ?_
    repeat tb_start
    refine v_catT S1 (hTH _) (S1.tqStay ht1) (by decide) (by decide) (by show 8 ≤ sizeLine; decide) fun t2 B2 H2 e2 ht2 S2 => ?_
    refine ⟨A, k, Pc, t2, allStates, rfl, by kts_caught, by kts_caught, hP, by kts_caught, S2.tqStay ht2, hst, by omega, ?_⟩
    repeat tb_start
    refine v_ixL (.inl (.inl (show H2 A.pa = _ by kts_caught))) (atI_nat (by rw [List.getElem?_map, hP]; rfl)) ?_
    repeat tb_start
    exact kk B2 H2 (e1.trans e2) S2.nil2
end
end LW

namespace LW
open PySem PySem.Spec PyProof.Rows L2 WK PM
abbrev s_Floor_lots_for : Stmt := inClass (topS 39) 4
theorem sc_Floor_lots_for : FnScope ["self", "part", "many", "found", "number", "lot"] ["self", "part", "many"] (defScope s_Floor_lots_for) := ⟨rfl, rfl, rfl, by decide +kernel, rfl, by decide +kernel, by decide +kernel⟩
abbrev s_Floor_pieces_for : Stmt := inClass (topS 39) 5
theorem sc_Floor_pieces_for : FnScope ["self", "part", "many", "some", "number", "piece"] ["self", "part", "many"] (defScope s_Floor_pieces_for) := ⟨rfl, rfl, rfl, by decide +kernel, rfl, by decide +kernel, by decide +kernel⟩
abbrev s_Floor_hold : Stmt := inClass (topS 39) 8
theorem sc_Floor_hold : FnScope ["self", "number", "piece", "other", "inner"] ["self", "number", "piece", "other"] (defScope s_Floor_hold) := ⟨rfl, rfl, rfl, by decide +kernel, rfl, by decide +kernel, by decide +kernel⟩
def kvN (xs : List (Nat × Int)) : List (Key × V) := xs.map fun x => (.inl (x.1 : Int), .int x.2)
def spLotsFor (K : PySem.W.Frag) (CF CL CI : Addr) : Sp := fun vs H Q _ => ∃ (B : Hp) (A : AFl) (z : Str) (m : Int), vs = [.ref A.f, .str z, .int m] ∧ Ok ⟨B, H, (FL CF CL CI A).map (·.1)⟩ B (FL CF CL CI A) H ∧ A.lots.length ≤ 10000 ∧ (takeLots (A.lots.map (·.s)) z m).2 = 0 ∧
  ∀ D B' H', Ex B B' → Ok ⟨B, H, (FL CF CL CI A).map (·.1)⟩ B' ((D, .dK (kvN (takeLots (A.lots.map (·.s)) z m).1)) :: FL CF CL CI A) H' → Q (.ref D) H'
def spPiecesFor (K : PySem.W.Frag) (CF CL CI : Addr) : Sp := fun vs H Q _ => ∃ (B : Hp) (A : AFl) (z : Str) (m : Nat), vs = [.ref A.f, .str z, .int (m : Int)] ∧ Ok ⟨B, H, (FL CF CL CI A).map (·.1)⟩ B (FL CF CL CI A) H ∧ A.pcs.length ≤ 10000 ∧ m ≤ (stockOf (A.pcs.map (·.s)) z).length ∧
  ∀ v B' H', Ex B B' → Ok ⟨B, H, (FL CF CL CI A).map (·.1)⟩ B' (FL CF CL CI A) H' → Dp K B' v (.list (((stockOf (A.pcs.map (·.s)) z).take m).map fun (k : Nat) => PyData.int (k : Int))) → Q v H'
/-- a floor with another state, the same else -/
def Grown (A A' : AFl) : Prop := A'.f = A.f ∧ A'.bk = A.bk ∧ A'.rt = A.rt ∧ A'.nv = A.nv ∧ A'.rs = A.rs ∧ A'.rates = A.rates ∧ A'.book = A.book ∧ A'.lots.length = A.lots.length ∧ A'.pcs.map (·.a) = A.pcs.map (·.a) ∧ A'.spent = A.spent ∧ A'.lost = A.lost
theorem Grown.refl (A : AFl) : Grown A A := ⟨rfl, rfl, rfl, rfl, rfl, rfl, rfl, rfl, rfl, rfl, rfl⟩
theorem Grown.trans {A A1 A2 : AFl} (h : Grown A A1) (g : Grown A1 A2) : Grown A A2 := by
  obtain ⟨h1, h2, h3, h4, h5, h6, h7, h8, h9, h10, h11⟩ := h
  obtain ⟨g1, g2, g3, g4, g5, g6, g7, g8, g9, g10, g11⟩ := g
  exact ⟨g1.trans h1, g2.trans h2, g3.trans h3, g4.trans h4, g5.trans h5, g6.trans h6, g7.trans h7, g8.trans h8, g9.trans h9, g10.trans h10, g11.trans h11⟩
def spHold (CF CL CI : Addr) : Sp := fun vs H Q _ => ∃ (B : Hp) (A : AFl) (k0 k1 : Nat) (P0 P1 : APc), vs = [.ref A.f, .int (k0 : Int), .ref P0.a, .int (k1 : Int)] ∧ Ok ⟨B, H, (FL CF CL CI A).map (·.1)⟩ B (FL CF CL CI A) H ∧ A.pcs[k0]? = some P0 ∧ A.pcs[k1]? = some P1 ∧ k0 ≠ k1 ∧ P0.s.holds.length < 10000 ∧
  ∀ A' B' H', Ex B B' → Ok ⟨B, H, (FL CF CL CI A).map (·.1)⟩ B' (FL CF CL CI A') H' → Grown A A' → A'.st = A.st.give k0 (.pc k1) → Q .non H'
theorem map_a_set {l : List APc} {k : Nat} {P P' : APc} (h : l[k]? = some P) (e : P'.a = P.a) : (l.set k P').map (·.a) = l.map (·.a) := by
  obtain ⟨l1, l2, hl, _, hs⟩ := at_split h
  rw [hs P', hl]
  simp [e]
section
variable {P : Program} {w : World} {K : PySem.W.Frag} {mg : Str → Option Value} {base : Heap}
theorem ok_lots_for {f CP CF CL CI : Addr} {fd : FuncData} (F : Fun K "lots_for" "Floor.lots_for" s_Floor_lots_for f fd) (fk : FlK K CP CF CL CI) (n_enumerate : mg "enumerate" = none) (n_min : mg "min" = none) : FnOk P w K mg base CX0 1 f fd ["self", "part", "many"] (spLotsFor K CF CL CI) := by
  obtain ⟨cP, cF, cL, cI, a1, a2, b1, b2, b3, b4, b5, b6, b7, c1, c2, c3, d1, d2, d3, d4, d5, d6, d7, d8⟩ := fk
  refine F.ok sc_Floor_lots_for (fun vs H Q E h => ?_) (fun cdv A outer s H vs Q E hr h => ?_)
  · obtain ⟨B, A, z, m, rfl, _⟩ := h
    rfl
  · obtain ⟨B, A, z, m, rfl, S, hlen, hz, kk⟩ := h
    have S0 := S.nil1
    refine with_al (P := P) (w := w) (K := K) hr (fun al => ?_)
    refine ⟨_, (pss_cons (ps_asg pe_dnewK (pg_name (i := 3) sc_Floor_lots_for.nd rfl (by first | exact Or.inl rfl | exact Or.inr rfl))) (pss_cons (ps_for PassesOwn.never rfl (pi_enumV (by rfl) n_enumerate (pa_cons (pe_fldU K (pv 0) rfl) pa_nil)) (pg_tupU (n := 2) K (pgs_cons (pg_name (i := 4) sc_Floor_lots_for.nd rfl (by first | exact Or.inl rfl | exact Or.inr rfl)) (pgs_cons (pg_name (i := 5) sc_Floor_lots_for.nd rfl (by first | exact Or.inl rfl | exact Or.inr rfl)) pgs_nil))) (pss_one (ps_if (PW.pt (pw_and (pt_cmpR (opU al) (pe_fldU K (pv 5) rfl) (pv 1) (nomark _)) (pw_and (pt_cmpR (opU al) (pe_fldU K (pv 5) rfl) pe_int (nomark _)) (pw_and1 (pt_cmpR (opU al) (pv 2) pe_int (nomark _)))))) (pss_cons (ps_asg (pe_callB (callU al) (by rfl) n_min b_min (pa_cons (pe_fldU K (pv 5) rfl) (pa_cons (pv 2) pa_nil))) (pg_sub (pv 3) (pv 4) (setU al))) (pss_one (ps_aug (i := 2) sc_Floor_lots_for.nd rfl (by first | exact Or.inl rfl | exact Or.inr rfl) (pe_ix (ixU al) (pv 3) (pv 4) (fun _ _ => rfl)) (ipU al)))) pss_nil))) (pss_one (ps_ret (pe_ifExp (pt_cmpR (opU al) (pv 2) pe_int (nomark _)) (pv 3) pe_non))))), ?_⟩
    repeat tb_start
    refine new_dK S0 fun D H1 S1 => ?_
    repeat tb_start
    refine enuO S1 (.tail _ mFl) ?_
    have fin : ∀ j, ((A.lots.zipIdx.take j).map fun x : ALot × Nat => (x.1.s, x.2)) = (A.lots.map (·.s)).zipIdx.take j := fun j => by
      rw [List.zipIdx_map, ← List.map_take]
      rfl
    refine forDS (src_enumO (fun x : ALot => V.ref x.a) A.lots) S1 (fun i σ B1 L1 => ∃ acc : List (Nat × Int) × Int, acc = ((A.lots.zipIdx.take i).map fun x => (x.1.s, x.2)).foldl (takeStep z) ([], m) ∧ (∃ yy4 yy5, σ = [some (.ref A.f), some (.str z), some (.int acc.2), some (.ref D), yy4, yy5]) ∧ L1 = (D, .dK (kvN acc.1)) :: (FL CF CL CI A ++ [])) (fun i σ B1 L1 _ ⟨acc, _, _, h⟩ => by rw [h]; exact .tail _ mFl) ?_ ?_ ?_
    · exact ⟨([], m), rfl, ⟨_, _, rfl⟩, rfl⟩
    · rintro i y xv σ B1 B2 L1 H2 hget ⟨acc, hacc, ⟨_, _, rfl⟩, rfl⟩ e1 e2 S2 ⟨T, rfl, hT⟩
      obtain ⟨hy1, hy2⟩ := zipIdx_at hget
      obtain ⟨x, xi⟩ := y
      dsimp only at hy1 hy2 hT
      subst hy2
      refine r_gtupB S2 hT rfl ?_
      repeat tb_start
      have hnew : ∀ k ∈ acc.1.map (·.1), k < xi := fun k hk => by
        rw [hacc] at hk
        rcases takeFold_keys z _ _ k hk with h | h
        · cases h
        · rw [List.map_map] at h
          obtain ⟨q, hq, rfl⟩ := List.mem_map.mp h
          obtain ⟨j, hj⟩ := List.getElem?_of_mem hq
          have hjl := (List.getElem?_eq_some_iff.mp hj).1
          rw [List.length_take] at hjl
          rw [List.getElem?_take_of_lt (by omega)] at hj
          have := (zipIdx_at hj).2
          show q.2 < xi
          omega
      have hstep : ((A.lots.zipIdx.take (xi + 1)).map fun x => (x.1.s, x.2)).foldl (takeStep z) ([], m) = takeStep z acc (x.s, xi) := by
        rw [List.take_add_one, hget, List.map_append, List.foldl_append, ← hacc]
        rfl
      have hno : valV (kvN acc.1) (.inl (xi : Int)) = none := valV_none fun hm => by
        obtain ⟨q, hq, e⟩ := List.mem_map.mp hm
        unfold kvN at hq
        obtain ⟨q2, hq2, rfl⟩ := List.mem_map.mp hq
        have h1 := hnew q2.1 (List.mem_map.mpr ⟨q2, hq2, rfl⟩)
        have h2 : (q2.1 : Int) = (xi : Int) := Sum.inl.inj e
        omega
      have hxl : xi < A.lots.length := (List.getElem?_eq_some_iff.mp hy1).1
      have hkl : (kvN acc.1).length < sizeLine := by
        have h1 := takeFold_len z ((A.lots.zipIdx.take xi).map fun x => (x.1.s, x.2)) ([], m)
        rw [← hacc, List.length_map, List.length_take] at h1
        unfold kvN
        rw [List.length_map, sizeLine_eq]
        simp only [List.length_nil] at h1
        omega
      have same : ¬ (x.s.part = z ∧ 0 < x.s.left ∧ 0 < acc.2) → takeStep z acc (x.s, xi) = acc := fun h => if_neg h
      have skip : ∀ (h : ¬ (x.s.part = z ∧ 0 < x.s.left ∧ 0 < acc.2)) (y3 y4 : Option V), NxE ⟨B, H, (FL CF CL CI A).map (·.1)⟩ B (fun σ B1 L1 => ∃ acc : List (Nat × Int) × Int, acc = ((A.lots.zipIdx.take (xi + 1)).map fun x => (x.1.s, x.2)).foldl (takeStep z) ([], m) ∧ (∃ yy4 yy5, σ = [some (.ref A.f), some (.str z), some (.int acc.2), some (.ref D), yy4, yy5]) ∧ L1 = (D, .dK (kvN acc.1)) :: (FL CF CL CI A ++ [])) [some (.ref A.f), some (.str z), some (.int acc.2), some (.ref D), y3, y4] H2 := fun h y3 y4 =>
        NxE.mk' S2 (by nest_room) ⟨acc, by rw [hstep, same h], ⟨_, _, rfl⟩, rfl⟩
      have hx : H2 x.a = some (.ins CL x.dx (ltF x.s)) := S2.mem (.tail _ (mFlot hy1))
      repeat tb_start
      refine ifd (fun h1 => ?_) (fun h1 => ?_)
      · repeat tb_start
        refine ifd (fun h2 => ?_) (fun h2 => ?_)
        · repeat tb_start
          refine ifd (fun h3 => ?_) (fun h3 => ?_)
          · repeat tb_start
            refine v_setKN (k := .inl (xi : Int)) 0 S2 rfl rfl hkl fun H3 S3 => ?_
            rw [putK_new _ hno] at S3
            replace S3 : Ok ⟨B, H, (FL CF CL CI A).map (·.1)⟩ B2 ((D, .dK (kvN acc.1 ++ [(.inl (xi : Int), .int (if acc.2 < x.s.left then acc.2 else x.s.left))])) :: (FL CF CL CI A ++ [])) H3 := S3
            repeat tb_start
            refine v_ixDI (S3.rdMem (.head _)) (v := .int (if acc.2 < x.s.left then acc.2 else x.s.left)) (by rw [valV_snoc _ _ _ _ hno, if_pos rfl]) ?_
            repeat tb_start
            have h4 : x.s.part = z ∧ 0 < x.s.left ∧ 0 < acc.2 := ⟨h1, h2, h3⟩
            refine NxE.mk' S3 (by nest_room) ?_
            refine ⟨takeStep z acc (x.s, xi), by rw [hstep], ?_, ?_⟩
            · unfold takeStep
              rw [if_pos h4]
              exact ⟨_, _, rfl⟩
            · unfold takeStep
              rw [if_pos h4]
              unfold kvN
              rw [List.map_append]
              rfl
          · exact skip (fun h => h3 h.2.2) _ _
        · exact skip (fun h => h2 h.2.1) _ _
      · exact skip (fun h => h1 h.1) _ _
    · rintro σ B1 L1 H2 ⟨acc, hacc, ⟨_, _, rfl⟩, rfl⟩ e1 S2
      have hA : acc = takeLots (A.lots.map (·.s)) z m := by
        rw [hacc, List.length_zipIdx]
        unfold takeLots
        rw [fin, List.take_of_length_le (by rw [List.length_zipIdx, List.length_map]; exact Nat.le_refl _)]
      subst hA
      rw [hz]
      repeat tb_start
      exact kk D B1 H2 e1 (by rw [List.append_nil] at S2; exact S2)
theorem ok_pieces_for {f CP CF CL CI : Addr} {fd : FuncData} (F : Fun K "pieces_for" "Floor.pieces_for" s_Floor_pieces_for f fd) (fk : FlK K CP CF CL CI) (n_enumerate : mg "enumerate" = none) (n_len : mg "len" = none) (c_STOCK : GlS mg "STOCK" "stock") : FnOk P w K mg base CX0 1 f fd ["self", "part", "many"] (spPiecesFor K CF CL CI) := by
  obtain ⟨cP, cF, cL, cI, a1, a2, b1, b2, b3, b4, b5, b6, b7, c1, c2, c3, d1, d2, d3, d4, d5, d6, d7, d8⟩ := fk
  refine F.ok sc_Floor_pieces_for (fun vs H Q E h => ?_) (fun cdv A outer s H vs Q E hr h => ?_)
  · obtain ⟨B, A, z, m, rfl, _⟩ := h
    rfl
  · obtain ⟨B, A, z, m, rfl, S, hlen, hz, kk⟩ := h
    have S0 := S.nil1
    refine with_al (P := P) (w := w) (K := K) hr (fun al => ?_)
    refine ⟨_, (pss_cons (ps_setLc (i := 3) (own := [("number", 4), ("piece", 5)]) al.calm sc_Floor_pieces_for.nd rfl rfl (sw_true rfl rfl rfl (by decide +kernel)) (pi_enumV (by rfl) n_enumerate (pa_cons (pe_fldU K (pv 0) rfl) pa_nil)) (blkOk_by (own := [("number", 4), ("piece", 5)]) (N := ["self", "part", "many", "some", "number", "piece"]) (sc := (defScope s_Floor_pieces_for)) (by decide +kernel)) (fun _ _ _ _ _ => (pg_tupU (n := 2) K (pgs_cons (pg_name (i := 4) sc_Floor_pieces_for.nd rfl (by first | exact Or.inl rfl | exact Or.inr rfl)) (pgs_cons (pg_name (i := 5) sc_Floor_pieces_for.nd rfl (by first | exact Or.inl rfl | exact Or.inr rfl)) pgs_nil)))) (fun _ _ _ _ _ => pts_one (PW.pt (pw_and (pt_cmpR (opU al) (pe_fldU K (pv 5) rfl) (pv 1) (nomark _)) (pw_and1 (pt_cmpR (opU al) (pe_fldU K (pv 5) rfl) (pe_gs c_STOCK rfl) (nomark _)))))) (fun _ _ _ _ _ => (pv 4))) (pss_one (ps_ret (pe_ifExp (pt_cmpR (opU al) (pe_callB (callU al) (by rfl) n_len b_len (pa_cons (pv 3) pa_nil)) (pv 2) (nomark _)) (pe_slice (slU al) (pv 3) po_none (po_some (pv 2))) pe_non)))), ?_⟩
    repeat tb_start
    refine enuO S0 mFp ?_
    refine lcPure K (src_enumO (fun x : APc => V.ref x.a) A.pcs) S0 (fun B1 D acc e => .tail _ mFp) (fun y => decide (y.1.s.part = z) && decide (y.1.s.state = sStock)) (fun y => .int (y.2 : Int)) (by rw [List.length_zipIdx]; omega) ?_ ?_
    · rintro y xv B1 D acc H1 C Cs hy e1 S1 ⟨T, rfl, hT⟩ kC kS
      obtain ⟨i, hi⟩ := List.getElem?_of_mem hy
      obtain ⟨hy1, hy2⟩ := zipIdx_at hi
      obtain ⟨x, xi⟩ := y
      dsimp only at hy1 hy2 hT kC kS ⊢
      have hx : H1 x.a = some (.ins CI x.dx (pcF x)) := S1.mem (.tail _ (mFpc hy1))
      refine r_gtupB S1 hT rfl ?_
      repeat tb_start
      refine ⟨rfl, ?_⟩
      repeat tb_start
      refine ifd (fun h1 => ?_) (fun h1 => ?_)
      · repeat tb_start
        refine ifd (fun h2 => ?_) (fun h2 => ?_)
        · repeat tb_start
          exact kC _ _ _ (by rw [decide_eq_true h1, decide_eq_true h2]; rfl) (Ex.refl _) S1 (.int _)
        · exact kS _ _ (by rw [decide_eq_false h2, Bool.and_false]) (Ex.refl _) S1
      · exact kS _ _ (by rw [decide_eq_false h1, Bool.false_and]) (Ex.refl _) S1
    · intro D acc B1 H1 e1 S1 hacc
      have hso : ((A.pcs.zipIdx.filter fun y => decide (y.1.s.part = z) && decide (y.1.s.state = sStock)).map fun y => PyData.int (y.2 : Int)) = (stockOf (A.pcs.map (·.s)) z).map fun (k : Nat) => PyData.int (k : Int) := by
        unfold stockOf
        rw [List.zipIdx_map, List.filter_map, List.map_map, List.map_map]
        rfl
      rw [hso] at hacc
      obtain ⟨B2, e2, S2, hD⟩ := S1.toData hacc
      repeat tb_start
      refine v_slTo S2 hD fun r B3 H3 e3 S3 h3 => ?_
      rw [← List.map_take] at h3
      exact kk r B3 H3 (by nest_room) S3.nil2 h3
theorem ok_hold {f CP CF CL CI : Addr} {fd : FuncData} (F : Fun K "hold" "Floor.hold" s_Floor_hold f fd) (fk : FlK K CP CF CL CI) (c_WITHIN : GlS mg "WITHIN" "within") : FnOk P w K mg base CX0 1 f fd ["self", "number", "piece", "other"] (spHold CF CL CI) := by
  obtain ⟨cP, cF, cL, cI, a1, a2, b1, b2, b3, b4, b5, b6, b7, c1, c2, c3, d1, d2, d3, d4, d5, d6, d7, d8⟩ := fk
  refine F.ok sc_Floor_hold (fun vs H Q E h => ?_) (fun cdv A outer s H vs Q E hr h => ?_)
  · obtain ⟨B, A, k0, k1, P0, P1, rfl, _⟩ := h
    rfl
  · obtain ⟨B, A, k0, k1, P0, P1, rfl, S, hP0, hP1, hne, hhl, kk⟩ := h
    have S0 := S.nil1
    have hk0 := (List.getElem?_eq_some_iff.mp hP0).1
    have hk1 := (List.getElem?_eq_some_iff.mp hP1).1
    refine with_al (P := P) (w := w) (K := K) hr (fun al => ?_)
    refine ⟨_, (pss_cons (ps_asg (pe_ix (ixU al) (pe_fldU K (pv 0) rfl) (pv 3) (fun _ _ => rfl)) (pg_name (i := 4) sc_Floor_hold.nd rfl (by first | exact Or.inl rfl | exact Or.inr rfl))) (pss_cons (ps_fldK K (pv 4) (pe_gs c_WITHIN rfl) rfl) (pss_cons (ps_fldK K (pv 4) (pv 1) rfl) (pss_cons (ps_expr (pe_bmU K PySem.F.plainAttrs_list PySem.F.slot_list_append PySem.F.type_list_append (metU al) (pe_fldU K (pv 2) rfl) (pa_cons (pv 3) pa_nil))) (pss_one (ps_augK K (pv 2) (pe_fldU K (pv 4) rfl) in_add)))))), ?_⟩
    repeat tb_start
    refine v_ixL (.inl (.inl S0.flP)) (atI_nat (by rw [List.getElem?_map, hP1]; rfl)) ?_
    repeat tb_start
    let Q1 : APc := { P1 with s := { P1.s with state := "within" } }
    refine sfdP S0 hP1 cI d2 Q1 ⟨rfl, rfl, rfl, rfl, rfl⟩ rfl fun H2 S2 => ?_
    have hQ1 : ({ A with pcs := A.pcs.set k1 Q1 } : AFl).pcs[k1]? = some Q1 := List.getElem?_set_self hk1
    repeat tb_start
    let Q2 : APc := { Q1 with s := { Q1.s with above := some k0 } }
    refine sfdP (P := Q1) S2 hQ1 cI d7 Q2 ⟨rfl, rfl, rfl, rfl, rfl⟩ rfl fun H3 S3 => ?_
    dsimp only at S3
    rw [List.set_set] at S3
    have hQ2 : ({ A with pcs := A.pcs.set k1 Q2 } : AFl).pcs[k1]? = some Q2 := List.getElem?_set_self hk1
    have hR : ({ A with pcs := A.pcs.set k1 Q2 } : AFl).pcs[k0]? = some P0 := by
      show (A.pcs.set k1 Q2)[k0]? = some P0
      rw [List.getElem?_set_ne (Ne.symm hne)]
      exact hP0
    have hx : H3 P0.a = some (.ins CI P0.dx (pcF P0)) := S3.flPc hR
    have hx2 : SqL K H3 P0.p (pcV P0.s.holds) := .inl (.inl (S3.flPp hR))
    repeat tb_start
    refine v_holdPc S3 hR hhl k1 fun H4 S4 => ?_
    have hR2 : ({ A with pcs := (A.pcs.set k1 Q2).set k0 (P0.hold (.pc k1)) } : AFl).pcs[k0]? = some (P0.hold (.pc k1)) := List.getElem?_set_self (by rw [List.length_set]; exact hk0)
    have hQ3 : ({ A with pcs := (A.pcs.set k1 Q2).set k0 (P0.hold (.pc k1)) } : AFl).pcs[k1]? = some Q2 := by
      show ((A.pcs.set k1 Q2).set k0 (P0.hold (.pc k1)))[k1]? = some Q2
      rw [List.getElem?_set_ne hne]
      exact List.getElem?_set_self hk1
    have hx3 : H4 P0.a = some (.ins CI P0.dx (pcF (P0.hold (.pc k1)))) := S4.flPc (P := P0.hold (.pc k1)) hR2
    have hx4 : H4 P1.a = some (.ins CI P1.dx (pcF Q2)) := S4.flPc (P := Q2) hQ3
    repeat tb_start
    let P3 : APc := { P0.hold (.pc k1) with s := { (P0.hold (.pc k1)).s with cost := P0.s.cost + P1.s.cost } }
    refine afP (P := P0.hold (.pc k1)) S4 hR2 P3 ⟨rfl, rfl, rfl, rfl, rfl⟩ rfl fun H5 S5 => ?_
    dsimp only at S5
    rw [List.set_set] at S5
    refine kk _ B H5 (Ex.refl _) S5.nil2 ⟨rfl, rfl, rfl, rfl, rfl, rfl, rfl, rfl, ?_, rfl, rfl⟩ ?_
    · show ((A.pcs.set k1 Q2).set k0 P3).map (·.a) = _
      rw [map_a_set (P' := P3) (show (A.pcs.set k1 Q2)[k0]? = some P0 from hR) rfl, map_a_set (P' := Q2) hP1 rfl]
    · unfold AFl.st Fl.give
      dsimp only
      rw [List.getElem?_map, hP1, List.getElem?_map, hP0]
      simp only [Option.map_some, List.map_set]
      rfl
end
end LW

namespace LW
open PySem PySem.Spec PyProof.Rows L2 WK PM
abbrev s_Floor_put_in : Stmt := inClass (topS 39) 7
theorem sc_Floor_put_in : FnScope ["self", "number", "piece", "some", "other", "lot", "many"] ["self", "number", "piece", "some"] (defScope s_Floor_put_in) := ⟨rfl, rfl, rfl, by decide +kernel, rfl, by decide +kernel, by decide +kernel⟩
/-- what was taken, as it stands -/
def TakenK (K : PySem.W.Frag) (B : Hp) (v : V) (hs : List Hold) : Prop := (∃ D od xs, v = .ref D ∧ B D = some (.frz od (.dK (kvN xs))) ∧ hs = lotHolds xs) ∨ (∃ ks, Dp K B v (.list (ks.map fun (k : Nat) => PyData.int (k : Int))) ∧ hs = pcHolds ks)
theorem TakenK.up {K : PySem.W.Frag} {B B' : Hp} {v : V} {hs : List Hold} (e : Ex B B') (h : TakenK K B v hs) : TakenK K B' v hs := by
  rcases h with ⟨D, od, xs, h1, h2, h3⟩ | ⟨ks, h1, h2⟩
  · exact .inl ⟨D, od, xs, h1, e _ _ h2, h3⟩
  · exact .inr ⟨ks, h1.up e, h2⟩
def spPutIn (K : PySem.W.Frag) (CF CL CI : Addr) : Sp := fun vs H Q _ => ∃ (B : Hp) (A : AFl) (k0 : Nat) (P0 : APc) (v : V) (hs : List Hold), vs = [.ref A.f, .int (k0 : Int), .ref P0.a, v] ∧ Ok ⟨B, H, (FL CF CL CI A).map (·.1)⟩ B (FL CF CL CI A) H ∧ A.pcs[k0]? = some P0 ∧ TakenK K B v hs ∧ GiveOk A.lots.length A.pcs.length k0 P0.s.holds hs ∧
  ∀ A' P' B' H', Ex B B' → Ok ⟨B, H, (FL CF CL CI A).map (·.1)⟩ B' (FL CF CL CI A') H' → Grown A A' → A'.st = A.st.giveAll k0 hs → A'.pcs[k0]? = some P' → P'.a = P0.a → P'.s.holds = P0.s.holds ++ hs → Q .non H'
theorem Grown.pcs {A A' : AFl} (g : Grown A A') {k : Nat} {P : APc} (h : A.pcs[k]? = some P) : ∃ P', A'.pcs[k]? = some P' ∧ P'.a = P.a := by
  have e := congrArg (fun l => l[k]?) g.2.2.2.2.2.2.2.2.1
  rw [List.getElem?_map, List.getElem?_map, h] at e
  cases h2 : A'.pcs[k]? with
  | none => rw [h2] at e; cases e
  | some P' => rw [h2] at e; exact ⟨P', rfl, Option.some.inj e⟩
theorem Grown.np {A A' : AFl} (g : Grown A A') : A'.pcs.length = A.pcs.length := by
  have e := congrArg List.length g.2.2.2.2.2.2.2.2.1
  rwa [List.length_map, List.length_map] at e
theorem Grown.nl {A A' : AFl} (g : Grown A A') : A'.lots.length = A.lots.length := g.2.2.2.2.2.2.2.1
section
variable {P : Program} {w : World} {K : PySem.W.Frag} {mg : Str → Option Value} {base : Heap}
theorem ok_put_in {f CP CF CL CI : Addr} {fd : FuncData} (F : Fun K "put_in" "Floor.put_in" s_Floor_put_in f fd) (G_hold : MtG P w K mg base 1 CF "hold" ["self", "number", "piece", "other"] (spHold CF CL CI)) (fk : FlK K CP CF CL CI) (n_isinstance : mg "isinstance" = none) (n_list : mg "list" = none) : FnOk P w K mg base CX0 2 f fd ["self", "number", "piece", "some"] (spPutIn K CF CL CI) := by
  obtain ⟨cP, cF, cL, cI, a1, a2, b1, b2, b3, b4, b5, b6, b7, c1, c2, c3, d1, d2, d3, d4, d5, d6, d7, d8⟩ := fk
  refine F.ok sc_Floor_put_in (fun vs H Q E h => ?_) (fun cdv A outer s H vs Q E hr h => ?_)
  · obtain ⟨B, A, k0, P0, v, hs, rfl, _⟩ := h
    rfl
  · obtain ⟨B, A, k0, P0, v, hs, rfl, S, hP0, ht, gk, kk⟩ := h
    have S0 := S.nil1
    refine with_al (P := P) (w := w) (K := K) hr (fun al => ?_)
    refine ⟨_, (pss_one (ps_if (pt_val (pe_callB (callU al) (by rfl) n_isinstance b_isinstance (pa_cons (pv 3) (pa_cons (pe_bt n_list b_list (by rfl)) pa_nil)))) (pss_one (ps_for PassesOwn.never rfl (pi_val al (pv 3)) (pg_name (i := 4) sc_Floor_put_in.nd rfl (by first | exact Or.inl rfl | exact Or.inr rfl)) (pss_one (ps_expr (pe_mth G_hold (hr.mono (by first | decide | omega)) (pv 0) (pa_cons (pv 1) (pa_cons (pv 2) (pa_cons (pv 4) pa_nil)))))))) (pss_one (ps_for PassesOwn.never rfl (pi_items (pv 3)) (pg_tupU (n := 2) K (pgs_cons (pg_name (i := 5) sc_Floor_put_in.nd rfl (by first | exact Or.inl rfl | exact Or.inr rfl)) (pgs_cons (pg_name (i := 6) sc_Floor_put_in.nd rfl (by first | exact Or.inl rfl | exact Or.inr rfl)) pgs_nil))) (pss_cons (ps_augK K (pe_ix (ixU al) (pe_fldU K (pv 0) rfl) (pv 5) (fun _ _ => rfl)) (pv 6) in_sub) (pss_cons (ps_asg (pe_op (opU al) (pe_bmU K PySem.F.plainAttrs_dict PySem.F.slot_dict_get PySem.F.type_dict_get (metU al) (pe_fldU K (pv 2) rfl) (pa_cons (pv 5) (pa_cons pe_int pa_nil))) (pv 6)) (pg_sub (pe_fldU K (pv 2) rfl) (pv 5) (setU al))) (pss_one (ps_augK K (pv 2) (pe_op (opU al) (pv 6) (pe_fldU K (pe_ix (ixU al) (pe_fldU K (pv 0) rfl) (pv 5) (fun _ _ => rfl)) rfl)) in_add)))))))), ?_⟩
    repeat tb_start
    rcases ht with ⟨D, od, xs, rfl, hD, rfl⟩ | ⟨ks, hv, rfl⟩
    · refine v_isiFD (S0.stay hD) (by decide) ?_
      repeat tb_start
      refine ifF (by decide) ?_
      repeat tb_start
      refine itmQ (S0.stay hD) ?_
      refine forDS src_items S0 (fun i σ B1 L1 => (∃ yy4 yy5 yy6, σ = [some (.ref A.f), some (.int (k0 : Int)), some (.ref P0.a), some (.ref D), yy4, yy5, yy6]) ∧ ∃ A1 P1, L1 = FL CF CL CI A1 ++ [] ∧ Grown A A1 ∧ A1.st = A.st.giveAll k0 (lotHolds (xs.take i)) ∧ A1.pcs[k0]? = some P1 ∧ P1.a = P0.a ∧ P1.s.holds = P0.s.holds ++ lotHolds (xs.take i)) (fun i σ B1 L1 e _ => .inl (e _ _ hD)) ?_ ?_ ?_
      · exact ⟨⟨_, _, _, rfl⟩, A, P0, rfl, Grown.refl A, rfl, hP0, rfl, by simp [lotHolds]⟩
      · rintro i y xv σ B1 B2 L1 H2 hget ⟨⟨_, _, _, rfl⟩, A1, P1, rfl, g1, hst1, hP1, ha1, hh1⟩ e1 e2 S2 ⟨T, rfl, hT⟩
        obtain ⟨x, hx, rfl⟩ : ∃ x, xs[i]? = some x ∧ (Sum.inl (x.1 : Int), V.int x.2) = y := by
          unfold kvN at hget
          rw [List.getElem?_map] at hget
          obtain ⟨x, h1, h2⟩ := Option.map_eq_some_iff.mp hget
          exact ⟨x, h1, h2⟩
        have hsplit : lotHolds xs = lotHolds (xs.take i) ++ (.lot x.1 x.2 :: lotHolds (xs.drop (i + 1))) := by
          have : xs = xs.take i ++ x :: xs.drop (i + 1) := by
            obtain ⟨h1, h2⟩ := List.getElem?_eq_some_iff.mp hx
            rw [← h2, List.getElem_cons_drop, List.take_append_drop]
          unfold lotHolds
          conv => lhs; rw [this]
          rw [List.map_append]
          rfl
        rw [hsplit] at gk
        have gk2 := gk.app.2
        have hl := gk2.lot x.1 x.2 (.head _)
        obtain ⟨lt, hlt⟩ : ∃ lt, A1.lots[x.1]? = some lt := ⟨_, List.getElem?_eq_getElem (by rw [g1.nl]; exact hl.1)⟩
        have hf1 : A1.f = A.f := g1.1
        rw [← hf1, ← ha1]
        refine r_gtupB S2 hT rfl ?_
        show gCons _ _ [.int (x.1 : Int), .int x.2] _ _ _
        repeat tb_start
        refine v_ixL (.inl (.inl S2.flL)) (atI_nat (by rw [List.getElem?_map, hlt]; rfl)) ?_
        have hx1 : H2 lt.a = some (.ins CL lt.dx (ltF lt.s)) := S2.flLot hlt
        repeat tb_start
        let s1 : Lt := { lt.s with left := lt.s.left - x.2 }
        refine afL S2 hlt s1 rfl fun H3 S3 => ?_
        have hP1' : ({ A1 with lots := A1.lots.set x.1 { lt with s := s1 } } : AFl).pcs[k0]? = some P1 := hP1
        have hx2 : H3 P1.a = some (.ins CI P1.dx (pcF P1)) := S3.flPc (P := P1) hP1'
        have hx3 : H3 P1.l = some (.dK (lotKV P1.s.holds)) := S3.flPl (P := P1) hP1'
        repeat tb_start
        have hfr : ∀ m', Hold.lot x.1 m' ∉ P1.s.holds := by rw [hh1]; exact gk2.fresh
        have hno : valV (lotKV P1.s.holds) (.inl (x.1 : Int)) = none := lotKV_none hfr
        refine v_get2I (kvs := lotKV P1.s.holds) (.inl hx3) ?_
        rw [hno, Option.getD_none]
        repeat tb_start
        rw [Int.zero_add]
        refine v_holdLot S3 hP1' (by rw [hh1, List.length_append]; have := gk2.len; rw [List.length_append] at this; omega) x.1 x.2 hfr fun H4 S4 => ?_
        dsimp only at S4
        have hP2 : ({ A1 with lots := A1.lots.set x.1 { lt with s := s1 }, pcs := A1.pcs.set k0 (P1.hold (.lot x.1 x.2)) } : AFl).pcs[k0]? = some (P1.hold (.lot x.1 x.2)) := List.getElem?_set_self (List.getElem?_eq_some_iff.mp hP1).1
        have hx4 : H4 P1.a = some (.ins CI P1.dx (pcF (P1.hold (.lot x.1 x.2)))) := S4.flPc (P := P1.hold (.lot x.1 x.2)) hP2
        have hl2 : ({ A1 with lots := A1.lots.set x.1 { lt with s := s1 }, pcs := A1.pcs.set k0 (P1.hold (.lot x.1 x.2)) } : AFl).lots[x.1]? = some { lt with s := s1 } := List.getElem?_set_self (List.getElem?_eq_some_iff.mp hlt).1
        have hx5 : H4 lt.a = some (.ins CL lt.dx (ltF s1)) := S4.flLot (x := { lt with s := s1 }) hl2
        repeat tb_start
        refine v_ixL (.inl (.inl S4.flL)) (atI_nat (by rw [List.getElem?_map, hl2]; rfl)) ?_
        repeat tb_start
        let P3 : APc := { P1.hold (.lot x.1 x.2) with s := { (P1.hold (.lot x.1 x.2)).s with cost := P1.s.cost + x.2 * lt.s.price } }
        refine afP (P := P1.hold (.lot x.1 x.2)) S4 hP2 P3 ⟨rfl, rfl, rfl, rfl, rfl⟩ rfl fun H5 S5 => ?_
        dsimp only at S5
        rw [List.set_set] at S5
        have htk : lotHolds (xs.take (i + 1)) = lotHolds (xs.take i) ++ [.lot x.1 x.2] := by
          unfold lotHolds
          rw [List.take_add_one, hx, List.map_append]
          rfl
        refine NxE.mk' S5 (by nest_room) ?_
        refine ⟨⟨_, _, _, rfl⟩, _, P3, rfl, g1.trans ⟨rfl, rfl, rfl, rfl, rfl, rfl, rfl, List.length_set, map_a_set (P' := P3) hP1 rfl, rfl, rfl⟩, ?_, List.getElem?_set_self (List.getElem?_eq_some_iff.mp hP1).1, rfl, ?_⟩
        · rw [htk, giveAll_app, ← hst1]
          show _ = A1.st.give k0 (.lot x.1 x.2)
          unfold AFl.st Fl.give
          dsimp only
          rw [List.getElem?_map, hlt, List.getElem?_map, hP1]
          simp only [Option.map_some, List.map_set]
          rfl
        · rw [htk, ← List.append_assoc, ← hh1]
      · rintro σ B1 L1 H2 ⟨⟨_, _, _, rfl⟩, A1, P1, rfl, g1, hst1, hP1, ha1, hh1⟩ e1 S2
        have hxl : xs.take (kvN xs).length = xs := by unfold kvN; rw [List.length_map, List.take_length]
        rw [hxl] at hst1 hh1
        exact kk A1 P1 B1 H2 e1 S2.nil2 g1 hst1 hP1 ha1 hh1
    · refine v_isiD (T := "list") S0 hv (by decide) ?_
      repeat tb_start
      refine ifT (show isT "list" "list" = true by decide) ?_
      repeat tb_start
      refine forDL (enc := fun (k : Nat) => PyData.int (k : Int)) S0 hv (fun i σ B1 L1 => (∃ yy4 yy5 yy6, σ = [some (.ref A.f), some (.int (k0 : Int)), some (.ref P0.a), some (v), yy4, yy5, yy6]) ∧ ∃ A1 P1, L1 = FL CF CL CI A1 ++ [] ∧ Grown A A1 ∧ A1.st = A.st.giveAll k0 (pcHolds (ks.take i)) ∧ A1.pcs[k0]? = some P1 ∧ P1.a = P0.a ∧ P1.s.holds = P0.s.holds ++ pcHolds (ks.take i)) ?_ ?_ ?_
      · exact ⟨⟨_, _, _, rfl⟩, A, P0, rfl, Grown.refl A, rfl, hP0, rfl, by simp [pcHolds]⟩
      · rintro i k1 xv σ B1 B2 L1 H2 hx ⟨⟨_, _, _, rfl⟩, A1, P1, rfl, g1, hst1, hP1, ha1, hh1⟩ e1 e2 S2 hxv
        obtain rfl := hxv.int_inv
        have hsplit : pcHolds ks = pcHolds (ks.take i) ++ (.pc k1 :: pcHolds (ks.drop (i + 1))) := by
          have : ks = ks.take i ++ k1 :: ks.drop (i + 1) := by
            obtain ⟨h1, h2⟩ := List.getElem?_eq_some_iff.mp hx
            rw [← h2, List.getElem_cons_drop, List.take_append_drop]
          unfold pcHolds
          conv => lhs; rw [this]
          rw [List.map_append]
          rfl
        rw [hsplit] at gk
        have gk2 := gk.app.2
        have hl := gk2.pc k1 (.head _)
        obtain ⟨q, hq⟩ : ∃ q, A1.pcs[k1]? = some q := ⟨_, List.getElem?_eq_getElem (by rw [g1.np]; exact hl.1)⟩
        have htk : pcHolds (ks.take (i + 1)) = pcHolds (ks.take i) ++ [.pc k1] := by
          unfold pcHolds
          rw [List.take_add_one, hx, List.map_append]
          rfl
        have hf1 : A1.f = A.f := g1.1
        rw [← hf1, ← ha1]
        repeat tb_start
        refine ⟨B2, A1, k0, k1, P1, q, rfl, (S2.nil2).again, hP1, hq, Ne.symm hl.2, by rw [hh1, List.length_append]; have := gk2.len; rw [List.length_append] at this; omega, fun A2 B3 H3 e3 T3 g2 hst2 => ?_⟩
        have S3 : Ok ⟨B, H, (FL CF CL CI A).map (·.1)⟩ B3 (FL CF CL CI A2 ++ []) H3 := S2.call T3
        obtain ⟨P2, hP2, ha2⟩ := g2.pcs hP1
        have hs2 : P2.s = { P1.s with holds := P1.s.holds ++ [.pc k1], cost := P1.s.cost + q.s.cost } := by
          have h1 : (A2.st).pcs[k0]? = some P2.s := by show (A2.pcs.map (·.s))[k0]? = _; rw [List.getElem?_map, hP2]; rfl
          rw [hst2, give_pc (p := P1.s) (q := q.s) (by show (A1.pcs.map (·.s))[k0]? = _; rw [List.getElem?_map, hP1]; rfl) (by show (A1.pcs.map (·.s))[k1]? = _; rw [List.getElem?_map, hq]; rfl) hl.2] at h1
          exact (Option.some.inj h1).symm
        repeat tb_start
        refine NxE.mk' S3 (by nest_room) ?_
        refine ⟨⟨_, _, _, rfl⟩, A2, P2, rfl, g1.trans g2, ?_, hP2, ha2, ?_⟩
        · rw [htk, giveAll_app, ← hst1]
          exact hst2
        · rw [hs2, htk, ← List.append_assoc, ← hh1]
      · rintro σ B1 L1 H2 ⟨⟨_, _, _, rfl⟩, A1, P1, rfl, g1, hst1, hP1, ha1, hh1⟩ e1 S2
        rw [List.take_length] at hst1 hh1
        exact kk A1 P1 B1 H2 e1 S2.nil2 g1 hst1 hP1 ha1 hh1
end
end LW

namespace LW
open PySem PySem.Spec PyProof.Rows L2 WK PM
abbrev s_Floor_begin : Stmt := inClass (topS 39) 6
theorem sc_Floor_begin : FnScope ["self", "part", "taken", "other", "many", "some", "piece", "number"] ["self", "part"] (defScope s_Floor_begin) := ⟨rfl, rfl, rfl, by decide +kernel, rfl, by decide +kernel, by decide +kernel⟩
def spBegin (K : PySem.W.Frag) (CP CF CL CI : Addr) : Sp := fun vs H Q _ => ∃ (B : Hp) (A : AFl) (z : Str) (r : PRow) (hss : List (List Hold)), vs = [.ref A.f, .str z] ∧ FS K CP CF CL CI B H A ∧ PM.rowOf A.rs z = some r ∧ (r.needs.isEmpty && r.steps.isEmpty) = false ∧ hss.length = r.needs.length ∧
  (∀ (i : Nat) (x : Str × Int) (hs : List Hold), r.needs[i]? = some x → hss[i]? = some hs → A.st.taken x.1 x.2 = some hs) ∧ GiveOk A.lots.length (A.pcs.length + 1) A.pcs.length [] hss.flatten ∧
  DoneQ K CP CF CL CI B H A (A.st.begin_ z r.steps.isEmpty hss.flatten) (Q (.int (A.pcs.length : Int)))
theorem need_row {rs : List PRow} (G : GoodBook rs) {z : Str} {r : PRow} (h : PM.rowOf rs z = some r) : r.needs.length ≤ 12 ∧ ∀ x ∈ r.needs, (1 ≤ x.2 ∧ x.2 ≤ 9) ∧ ∃ q, PM.rowOf rs x.1 = some q := by
  obtain ⟨hm, hn⟩ := rowOf_mem h
  obtain ⟨i, hi⟩ := List.getElem?_of_mem hm
  have R := G.row i r hi
  have hnl := G.lines18 r hm
  unfold rowLines at hnl
  rw [List.length_cons, List.length_append, List.length_map, List.length_map] at hnl
  have hlen : r.needs.length ≤ 12 := by
    have := nodup_sub_length R.nd (l' := (rs.take i).map (·.name)) (by
      intro x hx
      obtain ⟨y, hy, rfl⟩ := List.mem_map.mp hx
      exact R.known y hy)
    rw [List.length_map, List.length_map, List.length_take] at this
    have := G.len
    omega
  refine ⟨hlen, fun x hx => ⟨R.many x hx, ?_⟩⟩
  obtain ⟨q, hq, e⟩ := List.mem_map.mp (R.known x hx)
  have : (PM.rowOf rs x.1).isSome = true := by
    unfold PM.rowOf
    rw [List.find?_isSome]
    exact ⟨q, List.mem_of_mem_take hq, by simpa using e⟩
  exact Option.isSome_iff_exists.mp this
theorem modify_some {α : Type} {l : List α} {k : Nat} {x : α} {f : α → α} (h : l[k]? = some x) : l.modify k f = l.set k (f x) := by
  apply List.ext_getElem?
  intro j
  rw [List.getElem?_modify, List.getElem?_set]
  by_cases e : k = j
  · subst e
    have hk := (List.getElem?_eq_some_iff.mp h).1
    have e2 := (List.getElem?_eq_some_iff.mp h).2
    simp [h, hk, e2]
  · simp [e]
theorem taken_st {A : AFl} {z : Str} {m : Int} {q : PRow} (hq : PM.rowOf A.rs z = some q) : A.st.taken z m = (if (q.needs.isEmpty && q.steps.isEmpty) = true then (if (takeLots (A.lots.map (·.s)) z m).2 = 0 then some (lotHolds (takeLots (A.lots.map (·.s)) z m).1) else none)
  else if m.toNat ≤ (stockOf (A.pcs.map (·.s)) z).length then some (pcHolds ((stockOf (A.pcs.map (·.s)) z).take m.toNat)) else none) := by
  unfold Fl.taken isBought AFl.st
  dsimp only
  rw [hq]
section
variable {P : Program} {w : World} {K : PySem.W.Frag} {mg : Str → Option Value} {base : Heap}
theorem ok_begin {f CP CF CL CI : Addr} {fd : FuncData} (F : Fun K "begin" "Floor.begin" s_Floor_begin f fd) (G_need_part : MtG P w K mg base 1 CP "need_part" ["self", "name"] (spNeedPart K CP)) (G_is_bought : MtG P w K mg base 2 CP "is_bought" ["self", "name"] (spIsBought K CP)) (G_needs_of : MtG P w K mg base 1 CP "needs_of" ["self", "name"] (spNeedsOf K CP)) (G_steps_of : MtG P w K mg base 1 CP "steps_of" ["self", "name"] (spStepsOf K CP))
    (G_lots_for : MtG P w K mg base 1 CF "lots_for" ["self", "part", "many"] (spLotsFor K CF CL CI)) (G_pieces_for : MtG P w K mg base 1 CF "pieces_for" ["self", "part", "many"] (spPiecesFor K CF CL CI)) (G_Piece : MkG P w K mg base 1 CI "Piece" ["self", "part"] (spPieceI CI)) (G_put_in : MtG P w K mg base 2 CF "put_in" ["self", "number", "piece", "some"] (spPutIn K CF CL CI))
    (fk : FlK K CP CF CL CI) (n_len : mg "len" = none) (c_MADE : GlS mg "MADE" "made") : FnOk P w K mg base CX0 3 f fd ["self", "part"] (spBegin K CP CF CL CI) := by
  obtain ⟨cP, cF, cL, cI, a1, a2, b1, b2, b3, b4, b5, b6, b7, c1, c2, c3, d1, d2, d3, d4, d5, d6, d7, d8⟩ := fk
  refine F.ok sc_Floor_begin (fun vs H Q E h => ?_) (fun cdv A outer s H vs Q E hr h => ?_)
  · obtain ⟨B, A, z, r, hss, rfl, _⟩ := h
    rfl
  · obtain ⟨B, A, z, r, hss, rfl, ⟨S, fb, hfew⟩, hrow, hnb, hsl, htk, gk, kk⟩ := h
    have hfew2 := fb.few
    have hnv := nv_len fb
    have S0 := S.nil1
    have bk := fb.book
    obtain ⟨hnl, hneeds⟩ := need_row fb.good hrow
    obtain ⟨bdx, ba, bl, rkv, lkv, hb1, hb2, hb3, RK, LK⟩ := id bk
    refine with_al (P := P) (w := w) (K := K) hr (fun al => ?_)
    refine ⟨_, (pss_cons (ps_expr (pe_mth G_need_part (hr.mono (by first | decide | omega)) (pe_fldU K (pv 0) rfl) (pa_cons (pv 1) pa_nil))) (pss_cons (ps_if (pt_val (pe_mth G_is_bought (hr.mono (by first | decide | omega)) (pe_fldU K (pv 0) rfl) (pa_cons (pv 1) pa_nil))) (pss_one ps_never) pss_nil) (pss_cons (ps_asg (pe_lst pa_nil) (pg_name (i := 2) sc_Floor_begin.nd rfl (by first | exact Or.inl rfl | exact Or.inr rfl))) (pss_cons (ps_for PassesOwn.never rfl (pi_val al (pe_mth G_needs_of (hr.mono (by first | decide | omega)) (pe_fldU K (pv 0) rfl) (pa_cons (pv 1) pa_nil))) (pg_tupU (n := 2) K (pgs_cons (pg_name (i := 3) sc_Floor_begin.nd rfl (by first | exact Or.inl rfl | exact Or.inr rfl)) (pgs_cons (pg_name (i := 4) sc_Floor_begin.nd rfl (by first | exact Or.inl rfl | exact Or.inr rfl)) pgs_nil))) (pss_cons (ps_cut (ps_asg (pe_ifExp (pt_val (pe_mth G_is_bought (hr.mono (by first | decide | omega)) (pe_fldU K (pv 0) rfl) (pa_cons (pv 3) pa_nil))) (pe_frzA (pe_mth G_lots_for (hr.mono (by first | decide | omega)) (pv 0) (pa_cons (pv 3) (pa_cons (pv 4) pa_nil)))) (pe_mth G_pieces_for (hr.mono (by first | decide | omega)) (pv 0) (pa_cons (pv 3) (pa_cons (pv 4) pa_nil)))) (pg_name (i := 5) sc_Floor_begin.nd rfl (by first | exact Or.inl rfl | exact Or.inr rfl)))) (pss_cons (ps_if (pt_cmpR op_isN (pv 5) pe_non (nomark _)) (pss_one ps_never) pss_nil) (pss_one (ps_expr (pe_bmU K PySem.F.plainAttrs_list PySem.F.slot_list_append PySem.F.type_list_append (metU al) (pv 2) (pa_cons (pv 5) pa_nil))))))) (pss_cons (ps_asg (pe_mk G_Piece (hr.mono (by first | decide | omega)) rfl (pa_cons (pv 1) pa_nil)) (pg_name (i := 6) sc_Floor_begin.nd rfl (by first | exact Or.inl rfl | exact Or.inr rfl))) (pss_cons (ps_asg (pe_callB (callU al) (by rfl) n_len b_len (pa_cons (pe_fldU K (pv 0) rfl) pa_nil)) (pg_name (i := 7) sc_Floor_begin.nd rfl (by first | exact Or.inl rfl | exact Or.inr rfl))) (pss_cons (ps_expr (pe_bmU K PySem.F.plainAttrs_list PySem.F.slot_list_append PySem.F.type_list_append (metU al) (pe_fldU K (pv 0) rfl) (pa_cons (pv 6) pa_nil))) (pss_cons (ps_for PassesOwn.never rfl (pi_val al (pv 2)) (pg_name (i := 5) sc_Floor_begin.nd rfl (by first | exact Or.inl rfl | exact Or.inr rfl)) (pss_one (ps_expr (pe_mth G_put_in (hr.mono (by first | decide | omega)) (pv 0) (pa_cons (pv 7) (pa_cons (pv 6) (pa_cons (pv 5) pa_nil))))))) (pss_cons (ps_if (pt_cmpR (opU al) (pe_mth G_steps_of (hr.mono (by first | decide | omega)) (pe_fldU K (pv 0) rfl) (pa_cons (pv 1) pa_nil)) (pe_tup pa_nil) (nomark _)) (pss_one (ps_fldK K (pv 6) (pe_gs c_MADE rfl) rfl)) pss_nil) (pss_cons (ps_expr (pe_bmU K PySem.F.plainAttrs_list PySem.F.slot_list_append PySem.F.type_list_append (metU al) (pe_fldU K (pv 0) rfl) (pa_cons (pe_tup (pa_cons pe_str (pa_cons (pv 1) pa_nil))) pa_nil))) (pss_one (ps_ret (pv 7))))))))))))), ?_⟩
    repeat tb_start
    refine ⟨B, A.bk, A.rs, r, z, rfl, S0.ex, bk, hrow, ?_⟩
    repeat tb_start
    refine ⟨B, A.bk, A.rs, r, z, rfl, S0.ex, bk, hrow, fun B1 H1 T1 => ?_⟩
    have S1 := S0.callP T1
    have e1 := T1.ex0
    rw [hnb]
    repeat tb_start
    refine new_lst S1 (by decide) fun T H2 S2 => ?_
    have hbk2 : H2 A.bk = some (.ins CP bdx (fldsP ba bl)) := S2.ex _ _ (e1 _ _ hb1)
    repeat tb_start
    refine ⟨B1, A.bk, A.rs, r, z, rfl, S2.ex, bk.up e1, hrow, fun v hv => ?_⟩
    refine forDT S2 hv (fun i σ B1 L1 => (∃ yy3 yy4 yy5 yy6 yy7, σ = [some (.ref A.f), some (.str z), some (.ref T), yy3, yy4, yy5, yy6, yy7]) ∧ ∃ tvs : List V, L1 = (T, .lst tvs) :: (FL CF CL CI A ++ []) ∧ tvs.length = i ∧ ∀ (j : Nat) v, tvs[j]? = some v → ∃ hs, hss[j]? = some hs ∧ TakenK K B1 v hs) ?_ ?_ ?_
    · exact ⟨⟨_, _, _, _, _, rfl⟩, [], rfl, rfl, fun j v h => by simp at h⟩
    · rintro i x xv σ B2 B3 L1 H3 hx ⟨⟨_, _, _, _, _, rfl⟩, tvs, rfl, htl, htv⟩ e2 e3 S3 hxv
      obtain ⟨⟨x1, x2⟩, q, hq⟩ := hneeds x (List.mem_of_getElem? hx)
      have hil := (List.getElem?_eq_some_iff.mp hx).1
      obtain ⟨hs, hhs⟩ : ∃ hs, hss[i]? = some hs := ⟨_, List.getElem?_eq_getElem (by omega)⟩
      have ht0 := htk i x hs hx hhs
      rw [taken_st hq] at ht0
      have bk3 := bk.up (e1.trans (e2.trans e3))
      refine r_gtupSI S3 hxv ?_
      repeat tb_start
      refine cutS (fun σ' H' => ∃ tv, (∃ yy6 yy7, σ' = [some (.ref A.f), some (.str z), some (.ref T), some (.str x.1), some (.int x.2), some (tv), yy6, yy7]) ∧ ∃ B', Ex B3 B' ∧ TakenK K B' tv hs ∧ Ok ⟨B, H, (FL CF CL CI A).map (·.1)⟩ B' ((T, .lst tvs) :: (FL CF CL CI A ++ [])) H') ?_ ?_
      · have hbk3 : H3 A.bk = some (.ins CP bdx (fldsP ba bl)) := S3.ex _ _ ((e1.trans (e2.trans e3)) _ _ hb1)
        repeat tb_start
        refine ⟨B3, A.bk, A.rs, q, x.1, rfl, S3.ex, bk3, hq, fun B4 H4 T4 => ?_⟩
        have S4 := S3.callP T4
        have e4 := T4.ex0
        repeat tb_start
        refine ifb (fun hb => ?_) (fun hb => ?_)
        · rw [if_pos hb] at ht0
          have hz : (takeLots (A.lots.map (·.s)) x.1 x.2).2 = 0 := by
            by_cases h : (takeLots (A.lots.map (·.s)) x.1 x.2).2 = 0
            · exact h
            · rw [if_neg h] at ht0; cases ht0
          rw [if_pos hz] at ht0
          cases ht0
          repeat tb_start
          have S5 : Ok ⟨B, H, (FL CF CL CI A).map (·.1)⟩ B4 (FL CF CL CI A ++ [(T, .lst tvs)]) H4 := S4.perm (by rw [List.append_nil]; exact (List.perm_append_comm (l₁ := [(T, HO.lst tvs)])))
          refine ⟨B4, A, x.1, x.2, rfl, S5.sub, by omega, hz, fun D B6 H6 e6 T6 => ?_⟩
          have S6 := S5.call T6
          refine frzQ (S6.own _ (.head _)).1 trivial fun od => ?_
          obtain ⟨B7, e7, hD, S7⟩ := S6.freezeD (od := od)
          have S8 : Ok ⟨B, H, (FL CF CL CI A).map (·.1)⟩ B7 ((T, .lst tvs) :: (FL CF CL CI A ++ [])) _ := S7.perm (by rw [List.append_nil]; exact (List.perm_append_comm (l₂ := [(T, HO.lst tvs)])))
          repeat tb_start
          exact ⟨_, ⟨_, _, rfl⟩, B7, by nest_room, .inl ⟨D, od, _, rfl, hD, rfl⟩, S8⟩
        · rw [if_neg (by rw [hb]; decide)] at ht0
          have hz : x.2.toNat ≤ (stockOf (A.pcs.map (·.s)) x.1).length := by
            by_cases h : x.2.toNat ≤ (stockOf (A.pcs.map (·.s)) x.1).length
            · exact h
            · rw [if_neg h] at ht0; cases ht0
          rw [if_pos hz] at ht0
          cases ht0
          repeat tb_start
          have S5 : Ok ⟨B, H, (FL CF CL CI A).map (·.1)⟩ B4 (FL CF CL CI A ++ [(T, .lst tvs)]) H4 := S4.perm (by rw [List.append_nil]; exact (List.perm_append_comm (l₁ := [(T, HO.lst tvs)])))
          refine ⟨B4, A, x.1, x.2.toNat, by rw [Int.toNat_of_nonneg (by omega)], S5.sub, by omega, hz, fun v6 B6 H6 e6 T6 h6 => ?_⟩
          have S6 := S5.call T6
          have S8 : Ok ⟨B, H, (FL CF CL CI A).map (·.1)⟩ B6 ((T, .lst tvs) :: (FL CF CL CI A ++ [])) _ := S6.perm (by rw [List.append_nil]; exact (List.perm_append_comm (l₂ := [(T, HO.lst tvs)])))
          repeat tb_start
          exact ⟨_, ⟨_, _, rfl⟩, B6, by nest_room, .inr ⟨_, h6, rfl⟩, S8⟩
      rintro σ4 H4 ⟨tv, ⟨_, _, rfl⟩, B4, e4, hT4, S4⟩
      have hnn : tv ≠ .non := by
        rcases hT4 with ⟨D, od, xs, rfl, _, _⟩ | ⟨ks, h, _⟩
        · exact fun z => nomatch z
        · intro z
          subst z
          cases h
      repeat tb_start
      refine ⟨rfl, ?_⟩
      repeat tb_start
      refine v_appendN 0 S4 rfl (by rw [sizeLine_eq]; omega) fun H5 S5 => ?_
      replace S5 : Ok ⟨B, H, (FL CF CL CI A).map (·.1)⟩ B4 ((T, .lst (tvs ++ [tv])) :: (FL CF CL CI A ++ [])) H5 := S5
      repeat tb_start
      refine NxE.mk' S5 (by nest_room) ?_
      refine ⟨⟨_, _, _, _, _, rfl⟩, tvs ++ [tv], rfl, by rw [List.length_append, htl]; rfl, fun j v hj => ?_⟩
      by_cases hji : j < tvs.length
      · rw [List.getElem?_append_left hji] at hj
        obtain ⟨hs', h1, h2⟩ := htv j v hj
        exact ⟨hs', h1, h2.up (e3.trans e4)⟩
      · have : j = tvs.length := by
          have := (List.getElem?_eq_some_iff.mp hj).1
          rw [List.length_append, List.length_singleton] at this
          omega
        subst this
        rw [List.getElem?_append_right (Nat.le_refl _), Nat.sub_self] at hj
        cases hj
        exact ⟨hs, by rw [htl]; exact hhs, hT4⟩
    · rintro σ B2 L1 H3 ⟨⟨_, _, _, _, _, rfl⟩, tvs, rfl, htl, htv⟩ e2 S3
      have e23 := S3.exF
      have S4 := S3.freeze
      have hT : upd B2 T (.lst tvs) T = some (.lst tvs) := upd_same
      generalize upd B2 T (.lst tvs) = B3 at e23 S4 hT
      replace htv : ∀ (j : Nat) v, tvs[j]? = some v → ∃ hs, hss[j]? = some hs ∧ TakenK K B3 v hs := fun j v hj => by
        obtain ⟨hs, h1, h2⟩ := htv j v hj
        exact ⟨hs, h1, h2.up e23⟩
      clear S3
      have e03 : Ex B B3 := e1.trans (e2.trans e23)
      repeat tb_start
      refine mkQ S4 fun p dx H5 S5 => ?_
      refine ⟨B3, p, dx, z, rfl, S5.sub (L1 := [_]), fun l pp H6 T6 => retQ ?_⟩
      have S6 : Ok ⟨B, H, (FL CF CL CI A).map (·.1)⟩ B3 (pcC CI ⟨p, dx, l, pp, newPc z⟩ ++ (FL CF CL CI A ++ [])) H6 := S5.call (L1 := [_]) T6
      clear S5 T6
      have hxF : H6 A.f = some (.ins CF A.dx (flF A)) := S6.mem (List.mem_append_right _ mF)
      have hxP : SqL K H6 A.pa (A.pcs.map fun P => .ref P.a) := S6.sqMem (List.mem_append_right _ mFp)
      repeat tb_start
      refine v_addPc (P := ⟨p, dx, l, pp, newPc z⟩) S6 (by rw [sizeLine_eq]; omega) fun H7 S7 => ?_
      have gk' := gk
      let P0 : APc := ⟨p, dx, l, pp, newPc z⟩
      let A0 : AFl := { A with pcs := A.pcs ++ [P0] }
      have hn0 : A0.pcs[A.pcs.length]? = some P0 := List.getElem?_concat_length
      have hA0f : A0.f = A.f := rfl
      rw [List.length_map]
      repeat tb_start
      refine ItU.list (.inl (.inl (S7.stay hT))) ?_
      refine forDS src_lstV (S7 : Ok ⟨B, H, (FL CF CL CI A).map (·.1)⟩ B3 (FL CF CL CI A0 ++ []) H7) (fun i σ B1 L1 => (∃ yy3 yy4 yy5, σ = [some (.ref A.f), some (.str z), some (.ref T), yy3, yy4, yy5, some (.ref p), some (.int (A.pcs.length : Int))]) ∧ ∃ A1 P1, L1 = FL CF CL CI A1 ++ [] ∧ Grown A0 A1 ∧ A1.st = A0.st.giveAll A.pcs.length (hss.take i).flatten ∧ A1.pcs[A.pcs.length]? = some P1 ∧ P1.a = p ∧ P1.s.holds = (hss.take i).flatten) (fun i σ B1 L1 e _ => .inl (.inl (e _ _ hT))) ?_ ?_ ?_
      · exact ⟨⟨_, _, _, rfl⟩, A0, P0, rfl, Grown.refl A0, rfl, hn0, rfl, rfl⟩
      · rintro i y xv σ B4 B5 L1 H8 hget ⟨⟨_, _, _, rfl⟩, A1, P1, rfl, g1, hst1, hP1, ha1, hh1⟩ e1' e2' S8 rfl
        obtain ⟨hs, hhs, htk1⟩ := htv i _ hget
        have hsplit : hss.flatten = (hss.take i).flatten ++ (hs ++ (hss.drop (i + 1)).flatten) := by
          have : hss = hss.take i ++ hs :: hss.drop (i + 1) := by
            obtain ⟨h1, h2⟩ := List.getElem?_eq_some_iff.mp hhs
            rw [← h2, List.getElem_cons_drop, List.take_append_drop]
          conv => lhs; rw [this]
          rw [List.flatten_append, List.flatten_cons]
        have htk2 : (hss.take (i + 1)).flatten = (hss.take i).flatten ++ hs := by
          rw [List.take_add_one, hhs, List.flatten_append]
          simp
        rw [hsplit] at gk'
        have gk2 := gk'.app.2
        have gk3 := gk2.app.1
        rw [List.nil_append] at gk3
        have hf1 : A1.f = A.f := g1.1
        rw [← hf1, ← ha1]
        repeat tb_start
        refine ⟨B5, A1, A.pcs.length, P1, _, hs, rfl, (S8.nil2).again, hP1, htk1.up (e1'.trans e2'), by rw [g1.nl, g1.np, hh1]; show GiveOk A.lots.length (A.pcs ++ [P0]).length _ _ _; rw [List.length_append]; exact gk3, fun A2 P2 B6 H9 e6 T6 g2 hst2 hP2 ha2 hh2 => ?_⟩
        have S9 : Ok ⟨B, H, (FL CF CL CI A).map (·.1)⟩ B6 (FL CF CL CI A2 ++ []) H9 := S8.call T6
        repeat tb_start
        refine NxE.mk' S9 (by nest_room) ?_
        refine ⟨⟨_, _, _, rfl⟩, A2, P2, rfl, g1.trans g2, ?_, hP2, ha2, ?_⟩
        · rw [htk2, giveAll_app, ← hst1]
          exact hst2
        · rw [hh2, htk2, ← hh1]
      · rintro σ B4 L1 H8 ⟨⟨_, _, _, rfl⟩, A1, P1, rfl, g1, hst1, hP1, ha1, hh1⟩ e4 S8
        have hft : (hss.take tvs.length).flatten = hss.flatten := by rw [htl, ← hsl, List.take_length]
        rw [hft] at hst1 hh1
        obtain ⟨q1, q2, q3, q4, q5, q6, q7, q8, q9, q10, q11⟩ := id g1
        have hf1 : A1.f = A.f := q1
        have hnp : A1.pcs.length = A.pcs.length + 1 := by rw [g1.np]; exact List.length_append
        have hnvl : A1.nv.length = A.nv.length := congrArg List.length q4
        have e04 : Ex B B4 := e03.trans e4
        have bk4 : BookAt K CP B4 A1.bk A1.rs := by
          rw [show A1.bk = A.bk from q2, show A1.rs = A.rs from q5]
          exact bk.up e04
        have hrow1 : PM.rowOf A1.rs z = some r := by rw [show A1.rs = A.rs from q5]; exact hrow
        have hbk4 : H8 A1.bk = some (.ins CP bdx (fldsP ba bl)) := by rw [show A1.bk = A.bk from q2]; exact S8.ex _ _ (e04 _ _ hb1)
        rw [← hf1, ← ha1]
        repeat tb_start
        refine ⟨B4, A1.bk, A1.rs, r, z, rfl, S8.ex, bk4, hrow1, fun v5 hv5 => ?_⟩
        repeat tb_start
        refine new_tup S8 (by show 0 ≤ sizeLine; decide) fun t0 B5 H5 e5 ht0 S5 => ?_
        refine v_eqTNilD S5 (hv5.up e5) (S5.tqStay ht0) ?_
        repeat tb_start
        rw [List.isEmpty_map]
        have hfin : ∀ (A2 : AFl), A2.f = A1.f → A2.bk = A.bk → A2.rt = A.rt → A2.rs = A.rs → A2.rates = A.rates → A2.nv = A.nv → A2.book = A.book → A2.lots.length + A2.pcs.length = A.lots.length + A.pcs.length + 1 → ∀ (B6 H6 : Hp) (t : Addr) (H7 : Hp), Ex B B6 → B6 t = some (.tup [.str "begin", .str z]) → Ok ⟨B, H, (FL CF CL CI A).map (·.1)⟩ B6 (FL CF CL CI { A2 with nv := A2.nv ++ [.ref t], book := A2.book ++ [.begin_ z] } ++ []) H7 →
            AFl.st { A2 with book := A2.book ++ [.begin_ z] } = A.st.begin_ z r.steps.isEmpty hss.flatten → Q (.int (A.pcs.length : Int)) H7 := fun A2 h1 h2 h3 h4 h5 h6 h7 h8 B6 H6 t H7 e6 ht S7 hst => by
          refine kk _ B6 H7 e6 S7.nil2 (fb_put (d := .begin_ z) fb e6 (Dp.ofTup (ds := [.str "begin", .str z]) ht (.cons (.str _) (.cons (.str _) .nil))) h2 h3 h4 h5 ?_ ?_ ?_) hst (h1.trans hf1)
          · show A2.nv ++ _ = _
            rw [h6]
          · show A2.book ++ _ = _
            rw [h7]
          · exact Nat.le_of_eq h8
        have hk1 := (List.getElem?_eq_some_iff.mp hP1).1
        have hst0 : A0.st = { A.st with pcs := A.st.pcs ++ [newPc z] } := by
          unfold AFl.st
          dsimp only [A0, P0]
          rw [List.map_append]
          rfl
        have hlen : A.st.pcs.length = A.pcs.length := List.length_map _
        refine ifb (fun hh => ?_) (fun hh => ?_)
        · repeat tb_start
          let P2 : APc := { P1 with s := { P1.s with state := "made" } }
          refine sfdP (P := P1) S5 hP1 cI d2 P2 ⟨rfl, rfl, rfl, rfl, rfl⟩ rfl fun H6 S6 => ?_
          repeat tb_start
          refine new_tup S6 (by show 2 ≤ sizeLine; decide) fun t B7 H7 e7 ht S7 => ?_
          repeat tb_start
          refine v_note (A := { A1 with pcs := A1.pcs.set A.pcs.length P2 }) (.begin_ z) S7 (by rw [sizeLine_eq]; show A1.nv.length < _; omega) fun H8 S8 => ?_
          repeat tb_start
          refine hfin { A1 with pcs := A1.pcs.set A.pcs.length P2 } rfl q2 q3 q5 q6 q4 q7 (by show A1.lots.length + (A1.pcs.set _ _).length = _; rw [List.length_set, hnp, g1.nl]; rfl) B7 H8 t _ (e04.trans (e5.trans e7)) ht S8 ?_
          unfold Fl.begin_
          dsimp only
          rw [hlen, ← hst0, ← hst1, if_pos hh, modify_some (x := P1.s) (by show (A1.pcs.map (·.s))[_]? = _; rw [List.getElem?_map, hP1]; rfl)]
          unfold AFl.st
          dsimp only
          rw [List.map_set]
        · repeat tb_start
          refine new_tup S5 (by show 2 ≤ sizeLine; decide) fun t B7 H7 e7 ht S7 => ?_
          repeat tb_start
          refine v_note (A := A1) (.begin_ z) S7 (by rw [sizeLine_eq]; show A1.nv.length < _; omega) fun H8 S8 => ?_
          repeat tb_start
          refine hfin A1 rfl q2 q3 q5 q6 q4 q7 (by rw [hnp, g1.nl]; rfl) B7 H8 t _ (e04.trans (e5.trans e7)) ht S8 ?_
          unfold Fl.begin_
          dsimp only
          rw [hlen, ← hst0, ← hst1, if_neg (by rw [hh]; decide)]
          rfl
end
end LW

namespace LW
open PySem PySem.Spec PyProof.Rows L2 WK PM
abbrev s_Floor_swap : Stmt := inClass (topS 39) 12
def spSwap (K : PySem.W.Frag) (CP CF CL CI : Addr) : Sp := fun vs H Q _ => ∃ (B : Hp) (A : AFl) (k o n : Nat) (P0 P1 P2 : APc), vs = [.ref A.f, .int (k : Int), .int (o : Int), .int (n : Int)] ∧ FS K CP CF CL CI B H A ∧ A.pcs[k]? = some P0 ∧ A.pcs[o]? = some P1 ∧ A.pcs[n]? = some P2 ∧ k ≠ o ∧ k ≠ n ∧ o ≠ n ∧
  P0.s.state = "bad" ∧ P2.s.state = "stock" ∧ o ∈ pcsOf P0.s.holds ∧ P2.s.part = P1.s.part ∧ DoneQ K CP CF CL CI B H A (A.st.swap k o n P0.s P1.s P2.s) (Q .non)
section
variable {P : Program} {w : World} {K : PySem.W.Frag} {mg : Str → Option Value} {base : Heap}
end
end LW

namespace LW
open PySem PySem.Spec PyProof.Rows L2 WK PM
abbrev s_Floor_strip : Stmt := inClass (topS 39) 14
def spStrip (K : PySem.W.Frag) (CP CF CL CI : Addr) : Sp := fun vs H Q _ => ∃ (B : Hp) (A : AFl) (k : Nat) (P0 : APc), vs = [.ref A.f, .int (k : Int)] ∧ FS K CP CF CL CI B H A ∧ A.pcs[k]? = some P0 ∧ P0.s.state = "bad" ∧ (∀ x ∈ lotsOf P0.s.holds, x.1 < A.lots.length ∧ 0 ≤ x.2 ∧ x.2 < 1000) ∧ (∀ x ∈ pcsOf P0.s.holds, x < A.pcs.length ∧ x ≠ k) ∧
  DoneQ K CP CF CL CI B H A (A.st.strip k P0.s) (Q .non)
section
variable {P : Program} {w : World} {K : PySem.W.Frag} {mg : Str → Option Value} {base : Heap}
end
end LW

namespace LW
open PySem PySem.Spec PyProof.Rows L2 WK PM
abbrev s_Lot___init__ : Stmt := inClass (topS 37) 0
theorem sc_Lot___init__ : FnScope ["self", "part", "left", "price"] ["self", "part", "left", "price"] (defScope s_Lot___init__) := ⟨rfl, rfl, rfl, by decide +kernel, rfl, by decide +kernel, by decide +kernel⟩
abbrev s_Floor_sell : Stmt := inClass (topS 39) 15
abbrev s_Floor_buy : Stmt := inClass (topS 39) 3
theorem sc_Floor_buy : FnScope ["self", "part", "many", "price"] ["self", "part", "many", "price"] (defScope s_Floor_buy) := ⟨rfl, rfl, rfl, by decide +kernel, rfl, by decide +kernel, by decide +kernel⟩
def spLotI (CL : Addr) : Sp := fun vs H Q _ => ∃ (B : Hp) (p dx : Addr) (s : Lt), vs = [.ref p, .str s.part, .int s.left, .int s.price] ∧ Ok ⟨B, H, [p]⟩ B [(p, .ins CL dx [])] H ∧ ∀ H', Ok ⟨B, H, [p]⟩ B [(p, .ins CL dx (ltF s))] H' → Q .non H'

def spSell (K : PySem.W.Frag) (CP CF CL CI : Addr) : Sp := fun vs H Q _ => ∃ (B : Hp) (A : AFl) (k : Nat) (P : APc) (c : Int), vs = [.ref A.f, .int (k : Int), .int c] ∧ FS K CP CF CL CI B H A ∧ A.pcs[k]? = some P ∧ P.s.state = "stock" ∧ 0 ≤ c ∧ c ≤ 99 ∧
  DoneQ K CP CF CL CI B H A (A.st.put k { P.s with state := "sold", client := some c } (.sell k c)) (Q .non)
def spBuy (K : PySem.W.Frag) (CP CF CL CI : Addr) : Sp := fun vs H Q _ => ∃ (B : Hp) (A : AFl) (z : Str) (r : PRow) (m pr : Int), vs = [.ref A.f, .str z, .int m, .int pr] ∧ FS K CP CF CL CI B H A ∧ PM.rowOf A.rs z = some r ∧ r.needs = [] ∧ r.steps = [] ∧ 1 ≤ m ∧ m ≤ 999 ∧ 0 ≤ pr ∧ pr ≤ 9999 ∧
  DoneQ K CP CF CL CI B H A (A.st.buy z m pr) (Q (.int (A.lots.length : Int)))
section
variable {P : Program} {w : World} {K : PySem.W.Frag} {mg : Str → Option Value} {base : Heap}
theorem ok_lot_init {f CP CF CL CI : Addr} {fd : FuncData} (F : Fun K "__init__" "Lot.__init__" s_Lot___init__ f fd) (fk : FlK K CP CF CL CI) : FnOk P w K mg base CX0 1 f fd ["self", "part", "left", "price"] (spLotI CL) := by
  obtain ⟨cP, cF, cL, cI, a1, a2, b1, b2, b3, b4, b5, b6, b7, c1, c2, c3, d1, d2, d3, d4, d5, d6, d7, d8⟩ := fk
  refine F.ok sc_Lot___init__ (fun vs H Q E h => ?_) (fun cdv A outer s H vs Q E hr h => ?_)
  · obtain ⟨B, p, dx, s, rfl, _⟩ := h
    rfl
  · obtain ⟨B, p, dx, s, rfl, S, k⟩ := h
    refine with_al (P := P) (w := w) (K := K) hr (fun al => ?_)
    refine ⟨_, (pss_cons (ps_fldK K (pv 0) (pv 1) rfl) (pss_cons (ps_fldK K (pv 0) (pv 2) rfl) (pss_one (ps_fldK K (pv 0) (pv 3) rfl)))), ?_⟩
    repeat tb_start
    refine sfdQ 0 S rfl cL c1 (by decide) rfl fun H1 S1 => ?_
    repeat tb_start
    refine sfdQ 0 S1 rfl cL c2 (by show 1 < 1000; decide) rfl fun H2 S2 => ?_
    repeat tb_start
    refine sfdQ 0 S2 rfl cL c3 (by show 2 < 1000; decide) rfl fun H3 S3 => ?_
    exact k _ S3
theorem ok_buy {f CP CF CL CI : Addr} {fd : FuncData} (F : Fun K "buy" "Floor.buy" s_Floor_buy f fd) (G_need_part : MtG P w K mg base 1 CP "need_part" ["self", "name"] (spNeedPart K CP)) (G_is_bought : MtG P w K mg base 2 CP "is_bought" ["self", "name"] (spIsBought K CP)) (G_need_many : FnG P w K mg base 1 "need_many" ["number", "low", "high"] spNeedMany)
    (G_Lot : MkG P w K mg base 1 CL "Lot" ["self", "part", "left", "price"] (spLotI CL)) (fk : FlK K CP CF CL CI) (n_len : mg "len" = none) (c_MOST_MANY : GlI mg "MOST_MANY" 999) (c_MOST_PRICE : GlI mg "MOST_PRICE" 9999) : FnOk P w K mg base CX0 3 f fd ["self", "part", "many", "price"] (spBuy K CP CF CL CI) := by
  obtain ⟨cP, cF, cL, cI, a1, a2, b1, b2, b3, b4, b5, b6, b7, c1, c2, c3, d1, d2, d3, d4, d5, d6, d7, d8⟩ := fk
  refine F.ok sc_Floor_buy (fun vs H Q E h => ?_) (fun cdv A outer s H vs Q E hr h => ?_)
  · obtain ⟨B, A, z, r, m, pr, rfl, _⟩ := h
    rfl
  · obtain ⟨B, A, z, r, m, pr, rfl, ⟨S, fb, hfew⟩, hrow, hn, hs, m1, m2, p1, p2, kk⟩ := h
    have hfew2 := fb.few
    have hnv := nv_len fb
    have S0 := S.nil1
    have bk := fb.book
    obtain ⟨bdx, ba, bl, rkv, lkv, hb1, hb2, hb3, RK, LK⟩ := id bk
    refine with_al (P := P) (w := w) (K := K) hr (fun al => ?_)
    refine ⟨_, (pss_cons (ps_expr (pe_mth G_need_part (hr.mono (by first | decide | omega)) (pe_fldU K (pv 0) rfl) (pa_cons (pv 1) pa_nil))) (pss_cons (ps_if (pt_not (pt_val (pe_mth G_is_bought (hr.mono (by first | decide | omega)) (pe_fldU K (pv 0) rfl) (pa_cons (pv 1) pa_nil)))) (pss_one ps_never) pss_nil) (pss_cons (ps_expr (pe_fn G_need_many (hr.mono (by first | decide | omega)) rfl (pa_cons (pv 2) (pa_cons pe_int (pa_cons (pe_gi c_MOST_MANY rfl) pa_nil))))) (pss_cons (ps_expr (pe_fn G_need_many (hr.mono (by first | decide | omega)) rfl (pa_cons (pv 3) (pa_cons pe_int (pa_cons (pe_gi c_MOST_PRICE rfl) pa_nil))))) (pss_cons (ps_expr (pe_bmU K PySem.F.plainAttrs_list PySem.F.slot_list_append PySem.F.type_list_append (metU al) (pe_fldU K (pv 0) rfl) (pa_cons (pe_mk G_Lot (hr.mono (by first | decide | omega)) rfl (pa_cons (pv 1) (pa_cons (pv 2) (pa_cons (pv 3) pa_nil)))) pa_nil))) (pss_cons (ps_augK K (pv 0) (pe_op (opU al) (pv 2) (pv 3)) in_add) (pss_cons (ps_expr (pe_bmU K PySem.F.plainAttrs_list PySem.F.slot_list_append PySem.F.type_list_append (metU al) (pe_fldU K (pv 0) rfl) (pa_cons (pe_tup (pa_cons pe_str (pa_cons (pv 1) (pa_cons (pv 2) (pa_cons (pv 3) pa_nil))))) pa_nil))) (pss_one (ps_ret (pe_op (opU al) (pe_callB (callU al) (by rfl) n_len b_len (pa_cons (pe_fldU K (pv 0) rfl) pa_nil)) pe_int)))))))))), ?_⟩
    repeat tb_start
    refine ⟨B, A.bk, A.rs, r, z, rfl, S0.ex, bk, hrow, ?_⟩
    repeat tb_start
    refine ⟨B, A.bk, A.rs, r, z, rfl, S0.ex, bk, hrow, fun B1 H1 T1 => ?_⟩
    have S1 := S0.callP T1
    have e1 := T1.ex0
    have hbb : (r.needs.isEmpty && r.steps.isEmpty) = true := by rw [hn, hs]; rfl
    rw [hbb]
    repeat tb_start
    refine ⟨m, 1, 999, rfl, m1, m2, ?_⟩
    repeat tb_start
    refine ⟨pr, 0, 9999, rfl, p1, p2, ?_⟩
    repeat tb_start
    refine mkQ S1 fun x dx H2 S2 => ?_
    refine ⟨B1, x, dx, ⟨z, m, pr⟩, rfl, S2.sub (L1 := [_]), fun H3 T3 => retQ ?_⟩
    have S3 : Ok ⟨B, H, (FL CF CL CI A).map (·.1)⟩ B1 (lotC CL ⟨x, dx, ⟨z, m, pr⟩⟩ :: (FL CF CL CI A ++ [])) H3 := S2.call (L1 := [_]) T3
    refine v_addLot (x := ⟨x, dx, ⟨z, m, pr⟩⟩) S3 (by rw [sizeLine_eq]; omega) fun H4 S4 => ?_
    repeat tb_start
    refine afSpent (A := { A with lots := A.lots ++ [⟨x, dx, ⟨z, m, pr⟩⟩] }) S4 fun H5 S5 => ?_
    repeat tb_start
    refine new_tup S5 (by show 4 ≤ sizeLine; decide) fun t B6 H6 e6 ht S6 => ?_
    repeat tb_start
    refine v_note (A := { A with lots := A.lots ++ [⟨x, dx, ⟨z, m, pr⟩⟩], spent := A.spent + m * pr }) (.buy z m pr) S6 (by rw [sizeLine_eq]; show A.nv.length < _; omega) fun H7 S7 => ?_
    repeat tb_start
    have el : (((List.map (fun x => V.ref x.a) (A.lots ++ [⟨x, dx, ⟨z, m, pr⟩⟩])).length : Nat) : Int) - 1 = (A.lots.length : Int) := by
      rw [List.length_map, List.length_append, List.length_singleton]
      omega
    rw [el]
    refine kk _ B6 H7 (e1.trans e6) S7.nil2 (fb_put fb (e1.trans e6) (Dp.ofTup (ds := [.str "buy", .str z, .int m, .int pr]) ht (.cons (.str _) (.cons (.str _) (.cons (.int _) (.cons (.int _) .nil))))) rfl rfl rfl rfl rfl rfl ?_) ?_ rfl
    · show (A.lots ++ [_]).length + A.pcs.length ≤ A.lots.length + A.pcs.length + 1
      rw [List.length_append, List.length_singleton]
      omega
    · unfold AFl.st Fl.buy
      dsimp only
      rw [List.map_append]
      rfl
end
end LW

namespace LW
open PySem PySem.Spec PyProof.Rows L2 WK PM
def spRates (K : PySem.W.Frag) : Sp := fun vs H Q _ => ∃ (B : Hp) (p q : Addr) (m : Int) (cs : List Int) (kk : Int), vs = [.ref p] ∧ Ok ⟨B, H, [p, q]⟩ B (hL p q m cs kk) H ∧ HS cs kk ∧
  ∀ (r : V) (rt : List Int) (m' : Int) (cs' : List Int) (kk' : Int) (B' H' : Hp), Ex B B' → rt.length = 6 → (∀ x ∈ rt, 0 ≤ x ∧ x ≤ 99) → Dp K B' r (.tuple (rt.map PyData.int)) → HS cs' kk' → Ok ⟨B, H, [p, q]⟩ B' (hL p q m' cs' kk') H' → Q r H'
section
variable {P : Program} {w : World} {K : PySem.W.Frag} {mg : Str → Option Value} {base : Heap}
end
end LW

namespace LW
open PySem PySem.Spec PyProof.Rows L2 WK PM
abbrev s_Floor_at_hand : Stmt := inClass (topS 39) 18
theorem sc_Floor_at_hand : FnScope ["self", "part", "lot", "piece"] ["self", "part"] (defScope s_Floor_at_hand) := ⟨rfl, rfl, rfl, by decide +kernel, rfl, by decide +kernel, by decide +kernel⟩
theorem zipIdx_count {α : Type} (p : α → Bool) : ∀ (l : List α) (n : Nat), ((l.zipIdx n).filter fun x => p x.1).length = (l.filter p).length
  | [], n => rfl
  | a :: l, n => by
    rw [List.zipIdx_cons, List.filter_cons, List.filter_cons]
    by_cases h : p a = true
    · rw [if_pos h, if_pos h, List.length_cons, List.length_cons, zipIdx_count p l]
    · rw [if_neg h, if_neg h, zipIdx_count p l]
/-- how many are at hand -/
def handOf (s : Fl) (z : Str) : Int := if isBought s.rs z = true then ((s.lots.filter fun x => decide (x.part = z)).map (·.left)).sum else (stockOf s.pcs z).length
def spAtHand (K : PySem.W.Frag) (CP CF CL CI : Addr) : Sp := fun vs H Q _ => ∃ (B : Hp) (A : AFl) (z : Str) (r : PRow), vs = [.ref A.f, .str z] ∧ FS K CP CF CL CI B H A ∧ PM.rowOf A.rs z = some r ∧ LookQ K CF CL CI B H A (Q (.int (handOf A.st z)))
section
variable {P : Program} {w : World} {K : PySem.W.Frag} {mg : Str → Option Value} {base : Heap}
theorem ok_at_hand {f CP CF CL CI : Addr} {fd : FuncData} (F : Fun K "at_hand" "Floor.at_hand" s_Floor_at_hand f fd) (G_need_part : MtG P w K mg base 1 CP "need_part" ["self", "name"] (spNeedPart K CP)) (G_is_bought : MtG P w K mg base 2 CP "is_bought" ["self", "name"] (spIsBought K CP)) (fk : FlK K CP CF CL CI) (n_len : mg "len" = none) (n_sum : mg "sum" = none) (c_STOCK : GlS mg "STOCK" "stock") : FnOk P w K mg base CX0 3 f fd ["self", "part"] (spAtHand K CP CF CL CI) := by
  obtain ⟨cP, cF, cL, cI, a1, a2, b1, b2, b3, b4, b5, b6, b7, c1, c2, c3, d1, d2, d3, d4, d5, d6, d7, d8⟩ := fk
  refine F.ok sc_Floor_at_hand (fun vs H Q E h => ?_) (fun cdv A outer s H vs Q E hr h => ?_)
  · obtain ⟨B, A, z, r, rfl, _⟩ := h
    rfl
  · obtain ⟨B, A, z, r, rfl, ⟨S, fb, hfew⟩, hrow, kk⟩ := h
    have hfew2 := fb.few
    have S0 := S.nil1
    have bk := fb.book
    obtain ⟨bdx, ba, bl, rkv, lkv, hb1, hb2, hb3, RK, LK⟩ := id bk
    refine with_al (P := P) (w := w) (K := K) hr (fun al => ?_)
    refine ⟨_, (pss_cons (ps_expr (pe_mth G_need_part (hr.mono (by first | decide | omega)) (pe_fldU K (pv 0) rfl) (pa_cons (pv 1) pa_nil))) (pss_cons (ps_if (pt_val (pe_mth G_is_bought (hr.mono (by first | decide | omega)) (pe_fldU K (pv 0) rfl) (pa_cons (pv 1) pa_nil))) (pss_one (ps_ret (pe_callB (callU al) (by rfl) n_sum b_sum (pa_cons (pe_lc (own := [("lot", 2)]) al.calm sc_Floor_at_hand.nd (pi_val al (pe_fldU K (pv 0) rfl)) (blkOk_by (own := [("lot", 2)]) (N := ["self", "part", "lot", "piece"]) (sc := (defScope s_Floor_at_hand)) (by decide +kernel)) (fun _ _ _ _ _ => (pg_name (i := 2) sc_Floor_at_hand.nd rfl (by first | exact Or.inl rfl | exact Or.inr rfl))) (fun _ _ _ _ _ => pts_one (pt_cmpR (opU al) (pe_fldU K (pv 2) rfl) (pv 1) (nomark _))) (fun _ _ _ _ _ => (pe_fldU K (pv 2) rfl))) pa_nil)))) pss_nil) (pss_one (ps_ret (pe_callB (callU al) (by rfl) n_len b_len (pa_cons (pe_lc (own := [("piece", 3)]) al.calm sc_Floor_at_hand.nd (pi_val al (pe_fldU K (pv 0) rfl)) (blkOk_by (own := [("piece", 3)]) (N := ["self", "part", "lot", "piece"]) (sc := (defScope s_Floor_at_hand)) (by decide +kernel)) (fun _ _ _ _ _ => (pg_name (i := 3) sc_Floor_at_hand.nd rfl (by first | exact Or.inl rfl | exact Or.inr rfl))) (fun _ _ _ _ _ => pts_one (PW.pt (pw_and (pt_cmpR (opU al) (pe_fldU K (pv 3) rfl) (pv 1) (nomark _)) (pw_and1 (pt_cmpR (opU al) (pe_fldU K (pv 3) rfl) (pe_gs c_STOCK rfl) (nomark _)))))) (fun _ _ _ _ _ => (pv 3))) pa_nil)))))), ?_⟩
    repeat tb_start
    refine ⟨B, A.bk, A.rs, r, z, rfl, S0.ex, bk, hrow, ?_⟩
    repeat tb_start
    refine ⟨B, A.bk, A.rs, r, z, rfl, S0.ex, bk, hrow, fun B1 H1 T1 => ?_⟩
    have S1 := S0.callP T1
    have e1 := T1.ex0
    have hib : isBought A.rs z = (r.needs.isEmpty && r.steps.isEmpty) := by unfold isBought; rw [hrow]
    unfold handOf AFl.st at kk
    dsimp only at kk
    rw [hib] at kk
    repeat tb_start
    refine ifb (fun hh => ?_) (fun hh => ?_)
    · rw [if_pos hh] at kk
      repeat tb_start
      refine ItU.list (S1.sqMem mFl) ?_
      refine lcPure K (src_lstO (fun x : ALot => V.ref x.a) A.lots) S1 (fun B1 D acc e => .tail _ mFl) (fun y => decide (y.s.part = z)) (fun y => .int y.s.left) (by omega) ?_ ?_
      · rintro y xv B1 D acc H1 C Cs hy e1 S1 rfl kC kS
        obtain ⟨i, hi⟩ := List.getElem?_of_mem hy
        have hx : H1 y.a = some (.ins CL y.dx (ltF y.s)) := S1.mem (.tail _ (mFlot hi))
        repeat tb_start
        refine ⟨rfl, ?_⟩
        repeat tb_start
        refine ifd (fun h1 => ?_) (fun h1 => ?_)
        · repeat tb_start
          exact kC _ _ _ (decide_eq_true h1) (Ex.refl _) S1 (.int _)
        · exact kS _ _ (decide_eq_false h1) (Ex.refl _) S1
      · intro D acc B2 H2 e2 S2 hacc
        have hso : ((A.lots.filter fun y => decide (y.s.part = z)).map fun y => PyData.int y.s.left) = (((A.lots.map (·.s)).filter fun x => decide (x.part = z)).map (·.left)).map PyData.int := by
          rw [List.filter_map, List.map_map, List.map_map]
          rfl
        rw [hso] at hacc
        obtain ⟨B3, e3, S3, hD⟩ := S2.toData hacc
        repeat tb_start
        refine v_sumD S3 hD ?_
        repeat tb_start
        exact kk B3 H2 (by nest_room) S3.nil2
    · rw [if_neg (by rw [hh]; decide)] at kk
      repeat tb_start
      refine ItU.list (S1.sqMem mFp) ?_
      refine lcCount (src_lstO (fun x : APc => V.ref x.a) A.pcs) S1 (fun B1 D acc e => .tail _ mFp) (fun y => decide (y.s.part = z) && decide (y.s.state = sStock)) (by omega) ?_ ?_
      · rintro y xv B1 D acc H1 C Cs hy e1 S1 rfl kC kS
        obtain ⟨i, hi⟩ := List.getElem?_of_mem hy
        have hx : H1 y.a = some (.ins CI y.dx (pcF y)) := S1.mem (.tail _ (mFpc hi))
        repeat tb_start
        refine ⟨rfl, ?_⟩
        repeat tb_start
        refine ifd (fun h1 => ?_) (fun h1 => ?_)
        · repeat tb_start
          refine ifd (fun h2 => ?_) (fun h2 => ?_)
          · repeat tb_start
            exact kC _ _ _ (by rw [decide_eq_true h1, decide_eq_true h2]; rfl) (Ex.refl _) S1
          · exact kS _ _ (by rw [decide_eq_false h2, Bool.and_false]) (Ex.refl _) S1
        · exact kS _ _ (by rw [decide_eq_false h1, Bool.false_and]) (Ex.refl _) S1
      · intro D acc B2 H2 e2 S2 hacc
        have hso : (stockOf (A.pcs.map (·.s)) z).length = acc.length := by
          unfold stockOf
          rw [hacc, List.length_map, List.zipIdx_map, List.filter_map, List.length_map]
          exact zipIdx_count (fun (y : APc) => decide (y.s.part = z) && decide (y.s.state = sStock)) A.pcs 0
        rw [hso] at kk
        repeat tb_start
        exact kk B2 H2 (by nest_room) S2.drop.nil2
end
end LW

namespace LW
open PySem PySem.Spec PyProof.Rows L2 WK PM
def spPaid (CF : Addr) : Sp := fun vs H Q _ => ∃ (A : AFl), vs = [.ref A.f] ∧ H A.f = some (.ins CF A.dx (flF A)) ∧ Q (.int A.spent) H
def spCost (K : PySem.W.Frag) (CF CL CI : Addr) : Sp := fun vs H Q _ => ∃ (B : Hp) (A : AFl) (k : Nat) (P : APc), vs = [.ref A.f, .int (k : Int)] ∧ Ok ⟨B, H, (FL CF CL CI A).map (·.1)⟩ B (FL CF CL CI A) H ∧ A.pcs.length ≤ 10000 ∧ A.pcs[k]? = some P ∧ P.s.state ∈ allStates ∧ LookQ K CF CL CI B H A (Q (.int P.s.cost))
section
variable {P : Program} {w : World} {K : PySem.W.Frag} {mg : Str → Option Value} {base : Heap}
end
end LW

namespace LW
open PySem PySem.Spec PyProof.Rows L2 WK PM
def pieceBad (fs : Fl) (k : Int) (ss : List Str) : Option Ans := match fs.pcAt k with
  | none => some (.piece "")
  | some p => if p.state ∈ ss then none else some (.piece p.state)
theorem pieceBad_pc {fs : Fl} {k : Int} {ss : List Str} (h : pieceBad fs k ss = none) : ∃ p, fs.pcAt k = some p ∧ p.state ∈ ss := by
  unfold pieceBad at h
  cases e : fs.pcAt k with
  | none => rw [e] at h; cases h
  | some p =>
    rw [e] at h
    dsimp only at h
    by_cases hs : p.state ∈ ss
    · exact ⟨p, rfl, hs⟩
    · rw [if_neg hs] at h; cases h
theorem onPc_bad {fs : Fl} {k : Int} {ss : List Str} {f : Pc → Ans × Fl} {a : Ans} (h : pieceBad fs k ss = some a) : fs.onPc k ss f = (a, fs) := by
  unfold pieceBad at h
  unfold Fl.onPc
  cases e : fs.pcAt k with
  | none => rw [e] at h; cases h; rfl
  | some p =>
    rw [e] at h
    dsimp only at h ⊢
    by_cases hs : p.state ∈ ss
    · rw [if_pos hs] at h; cases h
    · rw [if_neg hs] at h ⊢; cases h; rfl
theorem onPc_ok {fs : Fl} {k : Int} {ss : List Str} {f : Pc → Ans × Fl} {p : Pc} (h : fs.pcAt k = some p) (hs : p.state ∈ ss) : fs.onPc k ss f = f p := by
  unfold Fl.onPc
  rw [h]
  exact if_pos hs
theorem onPc_told {fs : Fl} {k : Int} {ss : List Str} {f : Pc → Ans × Fl} (h : (fs.onPc k ss f).1.isTold = true) : ∃ p, 0 ≤ k ∧ fs.pcs[k.toNat]? = some p ∧ p.state ∈ ss ∧ fs.onPc k ss f = f p ∧ (f p).1.isTold = true := by
  cases hb : pieceBad fs k ss with
  | some a =>
    rw [onPc_bad hb] at h
    unfold pieceBad at hb
    cases e : fs.pcAt k with
    | none => rw [e] at hb; cases hb; cases h
    | some p =>
      rw [e] at hb
      dsimp only at hb
      by_cases hs : p.state ∈ ss
      · rw [if_pos hs] at hb; cases hb
      · rw [if_neg hs] at hb; cases hb; cases h
  | none =>
    obtain ⟨p, h1, h2⟩ := pieceBad_pc hb
    rw [onPc_ok h1 h2] at h
    exact ⟨p, (pcAt_some h1).1, (pcAt_some h1).2, h2, onPc_ok h1 h2, h⟩
theorem at_pc {A : AFl} {k : Nat} {p : Pc} (h : A.st.pcs[k]? = some p) : ∃ P, A.pcs[k]? = some P ∧ P.s = p := by
  replace h : (A.pcs.map (·.s))[k]? = some p := h
  rw [List.getElem?_map] at h
  obtain ⟨x, h1, h2⟩ := Option.map_eq_some_iff.mp h
  exact ⟨x, h1, h2⟩
theorem buy_told {fs : Fl} {z : Str} {m pr : Int} (h : (fs.mDone (.buy z m pr)).1.isTold = true) : isBought fs.rs z = true ∧ (1 ≤ m ∧ m ≤ 999) ∧ (0 ≤ pr ∧ pr ≤ 9999) ∧ fs.mDone (.buy z m pr) = (.told (.int fs.lots.length), fs.buy z m pr) := by
  have e : fs.mDone (.buy z m pr) = fs.mBuy z m pr := rfl
  rw [e] at h ⊢
  unfold Fl.mBuy at h ⊢
  by_cases h1 : isBought fs.rs z = true
  · rw [if_pos h1] at h ⊢
    by_cases h2 : (1 ≤ m ∧ m ≤ 999) ∧ (0 ≤ pr ∧ pr ≤ 9999)
    · rw [if_pos h2]
      exact ⟨h1, h2.1, h2.2, rfl⟩
    · rw [if_neg h2] at h; cases h
  · rw [if_neg h1] at h; cases h
theorem bought_row {rs : List PRow} {z : Str} (h : isBought rs z = true) : ∃ r, PM.rowOf rs z = some r ∧ r.needs = [] ∧ r.steps = [] := by
  unfold isBought at h
  cases e : PM.rowOf rs z with
  | none => rw [e] at h; cases h
  | some r =>
    rw [e] at h
    dsimp only at h
    rw [Bool.and_eq_true, List.isEmpty_iff, List.isEmpty_iff] at h
    exact ⟨r, rfl, h.1, h.2⟩
theorem begin_told {fs : Fl} {z : Str} (h : (fs.mDone (.begin_ z)).1.isTold = true) : ∃ r, PM.rowOf fs.rs z = some r ∧ (r.needs.isEmpty && r.steps.isEmpty) = false ∧ fs.lacking r.needs = none ∧ fs.mDone (.begin_ z) = (.told (.int fs.pcs.length), fs.begin_ z r.steps.isEmpty (fs.takes r.needs).flatten) := by
  have e : fs.mDone (.begin_ z) = fs.mBegin z := rfl
  rw [e] at h ⊢
  unfold Fl.mBegin at h ⊢
  cases e : PM.rowOf fs.rs z with
  | none => rw [e] at h; cases h
  | some r =>
    rw [e] at h
    dsimp only at h ⊢
    cases hb : (r.needs.isEmpty && r.steps.isEmpty) with
    | true => rw [hb, if_pos rfl] at h; cases h
    | false =>
      rw [hb, if_neg (by decide)] at h
      rw [if_neg (by decide)]
      cases hl : fs.lacking r.needs with
      | some y => rw [hl] at h; cases h
      | none => exact ⟨r, rfl, hb, hl, rfl⟩
theorem takes_at {fs : Fl} {needs : List (Str × Int)} (h : fs.lacking needs = none) : ∀ (i : Nat) (x : Str × Int) (hs : List Hold), needs[i]? = some x → (fs.takes needs)[i]? = some hs → fs.taken x.1 x.2 = some hs := fun i x hs hx hh => by
  have h1 := lacking_none h x (List.mem_of_getElem? hx)
  obtain ⟨hs', e⟩ := Option.isSome_iff_exists.mp h1
  unfold Fl.takes at hh
  rw [List.getElem?_map, hx] at hh
  have h2 : (fs.taken x.1 x.2).getD [] = hs := Option.some.inj hh
  rw [e] at h2 ⊢
  exact congrArg some h2
theorem lotKeys (hs : List Hold) : (hs.filterMap fun h => match h with | .lot j _ => some j | .pc _ => none) = (lotsOf hs).map (·.1) := by
  induction hs with
  | nil => rfl
  | cons h hs ih =>
    cases h with
    | lot j m =>
      show j :: _ = j :: _
      rw [ih]
      rfl
    | pc k => exact ih
theorem giveOk_of {A : AFl} {z : Str} {hs : List Hold} (P0 : PutOk { A.st with pcs := A.st.pcs ++ [newPc z] } A.st.pcs.length (newPc z) hs) : GiveOk A.lots.length (A.pcs.length + 1) A.pcs.length [] hs := by
  have hpl : A.st.pcs.length = A.pcs.length := List.length_map _
  have hll : A.st.lots.length = A.lots.length := List.length_map _
  refine ⟨fun k hk => ?_, fun j m hm => ?_, ?_, ?_⟩
  · obtain ⟨q, h1, h2, _⟩ := P0.pc k (mem_pcsOf.mpr hk)
    replace h1 : (A.st.pcs ++ [newPc z])[k]? = some q := h1
    have hlt := (List.getElem?_eq_some_iff.mp h1).1
    rw [List.length_append, List.length_singleton, hpl] at hlt
    refine ⟨hlt, fun e => ?_⟩
    subst e
    rw [← hpl, List.getElem?_append_right (Nat.le_refl _), Nat.sub_self] at h1
    cases h1
    exact absurd h2 making_ns
  · obtain ⟨l, h1, h2, h3, _⟩ := P0.lot (j, m) (mem_lotsOf.mpr hm)
    have := (List.getElem?_eq_some_iff.mp h1).1
    exact ⟨by rw [← hll]; exact this, by omega, by omega⟩
  · rw [List.nil_append]
    have h := P0.ndl
    replace h : ((lotsOf hs).map (·.1)).Nodup := h
    rw [← lotKeys] at h
    exact h
  · have h1 : (newPc z).holds.length + hs.length ≤ 200 := P0.len
    have h2 : (newPc z).holds.length = 0 := rfl
    show 0 + hs.length < 10000
    omega
theorem swap_told {fs : Fl} {k : Nat} {p : Pc} {o n : Int} (h : (fs.mSwap k p o n).1.isTold = true) : ∃ (oo nn : Nat) (q r : Pc), o = (oo : Int) ∧ n = (nn : Int) ∧ oo ∈ pcsOf p.holds ∧ fs.pcs[oo]? = some q ∧ fs.pcs[nn]? = some r ∧ r.state = "stock" ∧ r.part = q.part ∧ fs.mSwap k p o n = (.told .none, fs.swap k oo nn p q r) := by
  unfold Fl.mSwap at h ⊢
  by_cases h1 : 0 ≤ o ∧ o.toNat ∈ pcsOf p.holds
  · rw [if_pos h1] at h ⊢
    cases hn : fs.pcAt n with
    | none => rw [hn] at h; cases h
    | some r =>
      rw [hn] at h
      dsimp only at h ⊢
      by_cases h2 : r.state = "stock"
      · rw [if_pos h2] at h ⊢
        cases hq : fs.pcs[o.toNat]? with
        | none => rw [hq] at h; cases h
        | some q =>
          rw [hq] at h
          dsimp only at h ⊢
          by_cases h3 : r.part = q.part
          · rw [if_pos h3]
            obtain ⟨n0, hr⟩ := pcAt_some hn
            exact ⟨o.toNat, n.toNat, q, r, (Int.toNat_of_nonneg h1.1).symm, (Int.toNat_of_nonneg n0).symm, h1.2, hq, hr, h2, h3, rfl⟩
          · rw [if_neg h3] at h; cases h
      · rw [if_neg h2] at h; cases h
  · rw [if_neg h1] at h; cases h
end LW

namespace LW
open PySem PySem.Spec PyProof.Rows L2 WK PM
abbrev s_places : Stmt := topS 45
theorem sc_places : FnScope ["floor", "found", "lot", "piece"] ["floor"] (defScope s_places) := ⟨rfl, rfl, rfl, by decide +kernel, rfl, by decide +kernel, by decide +kernel⟩
/-- where what was paid lies -/
def spPlaces (K : PySem.W.Frag) (CP CF CL CI : Addr) : Sp := fun vs H Q _ => ∃ (B : Hp) (A : AFl), vs = [.ref A.f] ∧ Ok ⟨B, H, (FL CF CL CI A).map (·.1)⟩ B (FL CF CL CI A) H ∧ A.lots.length + A.pcs.length ≤ 10000 ∧ FlI A.st ∧ ∀ (D : Addr) B' H', Ex B B' → Ok ⟨B, H, (FL CF CL CI A).map (·.1)⟩ B' ((D, .dK (kvI (placesOf A.st))) :: FL CF CL CI A) H' → Q (.ref D) H'
section
variable {P : Program} {w : World} {K : PySem.W.Frag} {mg : Str → Option Value} {base : Heap}
theorem ok_places {f CP CF CL CI TP : Addr} {fd : FuncData} (F : Fun K "places" "places" s_places f fd) (fk : FlK K CP CF CL CI) (n_sum : mg "sum" = none) (c_LOTS : GlS mg "LOTS" "lots") (c_WORK : GlS mg "WORK" "work") (c_STOCK : GlS mg "STOCK" "stock") (c_SOLD : GlS mg "SOLD" "sold") (c_SCRAP : GlS mg "SCRAP" "scrap") (c_LOST : GlS mg "LOST" "lost") (c_PLACES : GlV mg "PLACES" (.ref TP)) (hPL : PlcK K w TP) : FnOk P w K mg base CX0 1 f fd ["floor"] (spPlaces K CP CF CL CI) := by
  obtain ⟨cP, cF, cL, cI, a1, a2, b1, b2, b3, b4, b5, b6, b7, c1, c2, c3, d1, d2, d3, d4, d5, d6, d7, d8⟩ := fk
  refine F.ok sc_places (fun vs H Q E h => ?_) (fun cdv A outer s H vs Q E hr h => ?_)
  · obtain ⟨B, A, rfl, _⟩ := h
    rfl
  · obtain ⟨B, A, rfl, S, hfew, inv, kk⟩ := h
    have S0 := S.nil1
    have hx0 : H A.f = some (.ins CF A.dx (flF A)) := S0.mem mF
    refine with_al (P := P) (w := w) (K := K) hr (fun al => ?_)
    refine ⟨_, (pss_cons (ps_asg (pe_disp (pps_cons (pe_gs c_LOTS rfl) (pe_callB (callU al) (by rfl) n_sum b_sum (pa_cons (pe_lc (own := [("lot", 2)]) al.calm sc_places.nd (pi_val al (pe_fldU K (pv 0) rfl)) (blkOk_by (own := [("lot", 2)]) (N := ["floor", "found", "lot", "piece"]) (sc := (defScope s_places)) (by decide +kernel)) (fun _ _ _ _ _ => (pg_name (i := 2) sc_places.nd rfl (by first | exact Or.inl rfl | exact Or.inr rfl))) (fun _ _ _ _ _ => pts_nil) (fun _ _ _ _ _ => (pe_op (opU al) (pe_fldU K (pv 2) rfl) (pe_fldU K (pv 2) rfl)))) pa_nil)) (pps_cons (pe_gs c_WORK rfl) pe_int (pps_cons (pe_gs c_STOCK rfl) pe_int (pps_cons (pe_gs c_SOLD rfl) pe_int (pps_cons (pe_gs c_SCRAP rfl) pe_int pps_nil))))) (by rfl) (by rfl) (fun z => by cases z) (by decide)) (pg_name (i := 1) sc_places.nd rfl (by first | exact Or.inl rfl | exact Or.inr rfl))) (pss_cons (ps_asg (pe_fldU K (pv 0) rfl) (pg_sub (pv 1) (pe_gs c_LOST rfl) (setU al))) (pss_cons (ps_for PassesOwn.never rfl (pi_val al (pe_fldU K (pv 0) rfl)) (pg_name (i := 3) sc_places.nd rfl (by first | exact Or.inl rfl | exact Or.inr rfl)) (pss_one (ps_if (pt_cmpR (opU al) (pe_fldU K (pv 3) rfl) (pe_gv c_PLACES rfl) rfl) (pss_one (ps_augS (pv 1) (pe_ix (ixU al) (pe_gv c_PLACES rfl) (pe_fldU K (pv 3) rfl) (fun _ _ => rfl)) (getU al) (pe_fldU K (pv 3) rfl) (ipU al) (setU al))) pss_nil))) (pss_one (ps_ret (pv 1)))))), ?_⟩
    repeat tb_start
    refine r_disp S0 fun p Hp Sp => ?_
    refine r_pcons ?_
    repeat tb_start
    refine ItU.list (Sp.sqMem (.tail _ mFl)) ?_
    refine lcPure K (src_lstO (fun x : ALot => V.ref x.a) A.lots) Sp (fun B1 D acc e => .tail _ (.tail _ mFl)) (fun _ => true) (fun y => .int (lotWorth y.s)) (by omega) ?_ ?_
    · rintro y xv B1 D acc H1 C Cs hy e1 S1 rfl kC kS
      obtain ⟨i, hi⟩ := List.getElem?_of_mem hy
      have hx : H1 y.a = some (.ins CL y.dx (ltF y.s)) := S1.mem (.tail _ (.tail _ (mFlot hi)))
      obtain ⟨l1, l2, l3, _⟩ := inv.lot i y.s (by show (A.lots.map (·.s))[i]? = _; rw [List.getElem?_map, hi]; rfl)
      repeat tb_start
      refine ⟨rfl, ?_⟩
      repeat tb_start
      exact kC _ _ _ rfl (Ex.refl _) S1 (.int _)
    · intro D acc B2 H2 e2 S2 hacc
      rw [filter_tt] at hacc
      have hso : (A.lots.map fun y => PyData.int (lotWorth y.s)) = ((A.st.lots.map lotWorth)).map PyData.int := by
        show _ = ((A.lots.map (·.s)).map lotWorth).map PyData.int
        rw [List.map_map, List.map_map]
        rfl
      rw [hso] at hacc
      obtain ⟨B3, e3, S3, hD⟩ := S2.toData hacc
      repeat tb_start
      refine v_sumD S3 hD ?_
      repeat tb_start
      refine dispQ 0 S3 rfl (kvI [("lots", (A.st.lots.map lotWorth).sum), ("work", 0), ("stock", 0), ("sold", 0), ("scrap", 0)]) rfl (by show 5 ≤ 15; decide) (by show (([.inr "lots", .inr "work", .inr "stock", .inr "sold", .inr "scrap"] : List Key)).Nodup; decide) fun H4 S4 => ?_
      have hx4 : H4 A.f = some (.ins CF A.dx (flF A)) := S4.mem (.tail _ mF)
      repeat tb_start
      refine v_setKN (k := .inr "lost") 0 S4 rfl rfl (by rw [sizeLine_eq]; show 5 < _; decide) fun H5 S5 => ?_
      replace S5 : Ok ⟨B, H, (FL CF CL CI A).map (·.1)⟩ B3 ((p, .dK (kvI (plStart A.st))) :: (FL CF CL CI A ++ [])) H5 := S5
      have hx5 : H5 A.f = some (.ins CF A.dx (flF A)) := S5.mem (.tail _ mF)
      clear S4 S3 S2 Sp
      repeat tb_start
      refine ItU.list (S5.sqMem (.tail _ mFp)) ?_
      refine forDS (src_lstO (fun x : APc => V.ref x.a) A.pcs) S5 (fun i σ B1 L1 => (∃ yy2 yy3, σ = [some (.ref A.f), some (.ref p), yy2, yy3]) ∧ L1 = (p, .dK (kvI (((A.pcs.take i).map (·.s)).foldl plStep (plStart A.st)))) :: (FL CF CL CI A ++ [])) ?_ ?_ ?_ ?_
      · rintro i σ B6 L6 e6 ⟨_, rfl⟩
        exact .tail _ mFp
      · exact ⟨⟨_, _, rfl⟩, rfl⟩
      · rintro i y xv σ B6 B7 L6 H7 hget ⟨⟨_, _, rfl⟩, rfl⟩ e6 e7 S7 rfl
        have hx : H7 y.a = some (.ins CI y.dx (pcF y)) := S7.mem (.tail _ (mFpc hget))
        have hst : y.s.state ∈ stList := (inv.pc i y.s (by show (A.pcs.map (·.s))[i]? = _; rw [List.getElem?_map, hget]; rfl)).st
        have htk : ((A.pcs.take (i + 1)).map (·.s)).foldl plStep (plStart A.st) = plStep (((A.pcs.take i).map (·.s)).foldl plStep (plStart A.st)) y.s := by rw [List.take_add_one, hget, List.map_append, List.foldl_append]; rfl
        have hky := plFold_keys ((A.pcs.take i).map (·.s)) (acc := plStart A.st) rfl
        rw [htk]
        generalize ((A.pcs.take i).map (·.s)).foldl plStep (plStart A.st) = acc at S7 hky ⊢
        have hln : acc.length = 6 := by have := congrArg List.length hky; rw [List.length_map] at this; exact this
        repeat tb_start
        refine v_inPlc hPL hst ?_
        repeat tb_start
        cases ho : placeOf y.s.state with
        | none =>
          refine ifF rfl ?_
          refine NxE.mk' S7 (e6.trans e7) ⟨⟨_, _, rfl⟩, ?_⟩
          unfold plStep
          rw [ho]
        | some o =>
          obtain ⟨m, hm⟩ := getA_of_mem (l := acc) (s := o) (by rw [hky]; exact placeOf_in ho)
          refine ifT rfl ?_
          repeat tb_start
          refine v_ixPlc hPL hst ho ?_
          refine v_getDS (kvs := kvI acc) (S7.rdMem (.head _)) (by rw [valV_kvI, hm]; rfl) ?_
          repeat tb_start
          refine v_setKN (k := .inr o) 0 S7 rfl rfl (by rw [List.length_map, sizeLine_eq]; omega) fun H8 S8 => ?_
          rw [putK_kvI] at S8
          refine NxE.mk' S8 (e6.trans e7) ⟨⟨_, _, rfl⟩, ?_⟩
          unfold plStep
          rw [ho]
          show _ = (p, HO.dK (kvI (addA acc o y.s.cost))) :: _
          unfold addA
          rw [hm]
          rfl
      · rintro σ B6 L6 H6 ⟨⟨_, _, rfl⟩, rfl⟩ e6 S6
        rw [List.take_length] at S6
        repeat tb_start
        exact kk p B6 H6 ((e2.trans e3).trans e6) (by rw [List.append_nil] at S6; exact S6)
end
end LW

namespace LW
open PySem PySem.Spec PyProof.Rows L2 WK PM
abbrev s_Floor_book_of : Stmt := inClass (topS 39) 20
theorem sc_Floor_book_of : FnScope ["self"] ["self"] (defScope s_Floor_book_of) := ⟨rfl, rfl, rfl, by decide +kernel, rfl, by decide +kernel, by decide +kernel⟩
def spBookOf (CF CL CI : Addr) : Sp := fun vs H Q _ => ∃ (B : Hp) (A : AFl), vs = [.ref A.f] ∧ Ex B H ∧ FH CF CL CI B H A ∧
  ∀ D H', Ok ⟨B, H, []⟩ B [(D, .lst A.nv)] H' → Q (.ref D) H'
section
variable {P : Program} {w : World} {K : PySem.W.Frag} {mg : Str → Option Value} {base : Heap}
theorem ok_book_of {f CP CF CL CI : Addr} {fd : FuncData} (F : Fun K "book_of" "Floor.book_of" s_Floor_book_of f fd) (fk : FlK K CP CF CL CI) (n_list : mg "list" = none) : FnOk P w K mg base CX0 1 f fd ["self"] (spBookOf CF CL CI) := by
  obtain ⟨cP, cF, cL, cI, a1, a2, b1, b2, b3, b4, b5, b6, b7, c1, c2, c3, d1, d2, d3, d4, d5, d6, d7, d8⟩ := fk
  refine F.ok sc_Floor_book_of (fun vs H Q E h => ?_) (fun cdv A outer s H0 vs Q E hr h => ?_)
  · obtain ⟨B, A, rfl, _⟩ := h
    rfl
  · obtain ⟨B, A, rfl, ex, fh, kk⟩ := h
    have S0 : Ok ⟨B, H0, []⟩ B [] H0 := Ok.start0 ex
    have hx0 := fh.fcell
    refine with_al (P := P) (w := w) (K := K) hr (fun al => ?_)
    refine ⟨_, (pss_one (ps_ret (pe_callTy (callU al) (by rfl) n_list b_list (pa_cons (pe_fldU K (pv 0) rfl) pa_nil)))), ?_⟩
    repeat tb_start
    refine v_listOf S0 (.inl (sqAt fh.fna)) fun r H1 S1 => ?_
    repeat tb_start
    exact kk r H1 S1
end
end LW

namespace LW
open PySem PySem.Spec PyProof.Rows L2 WK PM
def spHolders (K : PySem.W.Frag) (CF CL CI : Addr) : Sp := fun vs H Q _ => ∃ (B : Hp) (A : AFl) (k : Nat) (P : APc), vs = [.ref A.f, .int (k : Int)] ∧ Ex B H ∧ FH CF CL CI B H A ∧ A.pcs.length ≤ 10000 ∧ FlI A.st ∧ A.pcs[k]? = some P ∧
  ∀ (D : Addr) H', Ok ⟨B, H, []⟩ B [(D, .lst ((A.st.chain 13 k).map fun (i : Nat) => V.int (i : Int)))] H' → Q (.ref D) H'
def spStateOfR (CF CL CI : Addr) : Sp := fun vs H Q _ => ∃ (B : Hp) (A : AFl) (k : Nat) (P : APc), vs = [.ref A.f, .int (k : Int)] ∧ Ex B H ∧ FH CF CL CI B H A ∧ A.pcs.length ≤ 10000 ∧ A.pcs[k]? = some P ∧ P.s.state ∈ allStates ∧ ∀ B' H', Ok ⟨B, H, []⟩ B' [] H' → Q (.str P.s.state) H'
section
variable {P : Program} {w : World} {K : PySem.W.Frag} {mg : Str → Option Value} {base : Heap}
end
end LW

namespace LW
open PySem PySem.Spec PyProof.Rows L2 WK PM
abbrev s_Floor_top_of : Stmt := inClass (topS 39) 19
def spTopOf (CF CL CI : Addr) : Sp := fun vs H Q _ => ∃ (B : Hp) (A : AFl) (k : Nat) (P : APc), vs = [.ref A.f, .int (k : Int)] ∧ Ex B H ∧ FH CF CL CI B H A ∧ FlI A.st ∧ A.pcs[k]? = some P ∧
  ∀ H', Ok ⟨B, H, []⟩ B [] H' → Q (.int (A.st.topOf k : Int)) H'
section
variable {P : Program} {w : World} {K : PySem.W.Frag} {mg : Str → Option Value} {base : Heap}
end
end LW

namespace LW
open PySem PySem.Spec PyProof.Rows L2 WK PM

def AK (CF CL CI : Addr) (dl dp : Addr) (m : List (Nat × Int)) (xs : List Nat) (A : AFl) : Led := (dl, .dK (kvN m)) :: (dp, .lst (intsN xs)) :: FL CF CL CI A
def spAddKin (K : PySem.W.Frag) (CF CL CI : Addr) : Nat → Sp
  | 0 => fun _ _ _ _ => False
  | n + 1 => fun vs H Q _ => ∃ (B : Hp) (A : AFl) (k : Nat) (P : APc) (dl dp : Addr) (m : List (Nat × Int)) (f : Nat → Int) (xs : List Nat), vs = [.ref A.f, .int (k : Int), .ref dl, .ref dp] ∧ Ok ⟨B, H, dl :: dp :: (FL CF CL CI A).map (·.1)⟩ B (AK CF CL CI dl dp m xs A) H ∧ FlI A.st ∧ A.pcs[k]? = some P ∧ A.lots.length ≤ 1000 ∧
    xs.length + (A.st.kinP (n + 1) k).length ≤ 10000 ∧ P.s.part ∈ (A.rs.take (n + 1)).map (·.name) ∧ LotIs A.lots.length m f ∧
    ∀ m' H', LotIs A.lots.length m' (fun j => f j + A.st.tot (n + 1) k j) → Ok ⟨B, H, dl :: dp :: (FL CF CL CI A).map (·.1)⟩ B (AK CF CL CI dl dp m' (xs ++ A.st.kinP (n + 1) k) A) H' → Q .non H'
def spKin (K : PySem.W.Frag) (CF CL CI : Addr) : Sp := fun vs H Q _ => ∃ (B : Hp) (A : AFl) (k : Nat) (P : APc), vs = [.ref A.f, .int (k : Int)] ∧ Ex B H ∧ FH CF CL CI B H A ∧ A.pcs.length ≤ 1000 ∧ A.lots.length ≤ 1000 ∧ FlI A.st ∧ A.pcs[k]? = some P ∧
  ∀ (t D1 D2 : Addr) (xs : List V) B' H', Ex B B' → Ok ⟨B, H, []⟩ B' [(D1, .lst xs), (D2, .lst (intsN (A.st.kinS k)))] H' → B' t = some (.tup [.ref D1, .ref D2]) → DpAll K B' xs ((A.st.kinT k).map fun e => .tuple [.int (e.1 : Int), .int e.2]) → Q (.ref t) H'
section
variable {P : Program} {w : World} {K : PySem.W.Frag} {mg : Str → Option Value} {base : Heap}
end
end LW

namespace LW
open PySem PySem.Spec PyProof.Rows L2 WK PM
abbrev s_Floor_lot : Stmt := inClass (topS 39) 2
theorem sc_Floor_lot : FnScope ["self", "number"] ["self", "number"] (defScope s_Floor_lot) := ⟨rfl, rfl, rfl, by decide +kernel, rfl, by decide +kernel, by decide +kernel⟩
def trues (ks : List Nat) : List (Key × V) := ks.map fun (k : Nat) => (.inl (k : Int), .bl true)
def spLotAt (CF CL CI : Addr) : Sp := fun vs H Q _ => ∃ (B : Hp) (A : AFl) (j : Nat) (x : ALot), vs = [.ref A.f, .int (j : Int)] ∧ FH CF CL CI B H A ∧ A.lots[j]? = some x ∧ Q (.ref x.a) H
def spRecalled (K : PySem.W.Frag) (CF CL CI : Addr) : Sp := fun vs H Q _ => ∃ (B : Hp) (A : AFl) (vl vp : V) (js ps : List Nat), vs = [.ref A.f, vl, vp] ∧ Ex B H ∧ FH CF CL CI B H A ∧ A.pcs.length ≤ 1000 ∧ A.lots.length ≤ 1000 ∧ FlI A.st ∧ Dpl K B vl (encIs js) ∧ Dpl K B vp (encIs ps) ∧ (∀ j ∈ js, j < A.lots.length) ∧ (∀ p ∈ ps, p < A.pcs.length) ∧ js.length ≤ 1000 ∧ ps.length ≤ 1000 ∧
  ∀ (D : Addr) (xs : List V) B' H', Ex B B' → Ok ⟨B, H, []⟩ B' [(D, .lst xs)] H' → DpAll K B' xs ((A.st.recS js ps).map (encRec A.st)) → Q (.ref D) H'
section
variable {P : Program} {w : World} {K : PySem.W.Frag} {mg : Str → Option Value} {base : Heap}
theorem ok_lot {f CP CF CL CI : Addr} {fd : FuncData} (F : Fun K "lot" "Floor.lot" s_Floor_lot f fd) (fk : FlK K CP CF CL CI) (n_len : mg "len" = none) : FnOk P w K mg base CX0 1 f fd ["self", "number"] (spLotAt CF CL CI) := by
  obtain ⟨cP, cF, cL, cI, a1, a2, b1, b2, b3, b4, b5, b6, b7, c1, c2, c3, d1, d2, d3, d4, d5, d6, d7, d8⟩ := fk
  refine F.ok sc_Floor_lot (fun vs H Q E h => ?_) (fun cdv A outer s H0 vs Q E hr h => ?_)
  · obtain ⟨B, A, j, x, rfl, _⟩ := h
    rfl
  · obtain ⟨B, A, j, x, rfl, fh, hx, kk⟩ := h
    have hx0 := fh.fcell
    have hla := fh.fla
    have hj := (List.getElem?_eq_some_iff.mp hx).1
    refine with_al (P := P) (w := w) (K := K) hr (fun al => ?_)
    refine ⟨_, (pss_cons (ps_if (pt_not (pt_chain (opU al) (opU al) pe_int (pv 1) (pe_callB (callU al) (by rfl) n_len b_len (pa_cons (pe_fldU K (pv 0) rfl) pa_nil)))) (pss_one ps_never) pss_nil) (pss_one (ps_ret (pe_ix (ixU al) (pe_fldU K (pv 0) rfl) (pv 1) (fun _ _ => rfl))))), ?_⟩
    repeat tb_start
    refine v_ixL (.inl (.inl hla)) (atI_nat (by rw [List.getElem?_map, hx]; rfl)) ?_
    exact kk
end
end LW

namespace LW
open PySem PySem.Spec PyProof.Rows L2 WK PM
def spClients (K : PySem.W.Frag) (CF CL CI : Addr) : Sp := fun vs H Q _ => ∃ (B : Hp) (A : AFl) (vl vp : V) (js ps : List Nat), vs = [.ref A.f, vl, vp] ∧ Ex B H ∧ FH CF CL CI B H A ∧ A.pcs.length ≤ 1000 ∧ A.lots.length ≤ 1000 ∧ FlI A.st ∧ CliOk A.st ∧ Dpl K B vl (encIs js) ∧ Dpl K B vp (encIs ps) ∧ (∀ j ∈ js, j < A.lots.length) ∧ (∀ p ∈ ps, p < A.pcs.length) ∧ js.length ≤ 1000 ∧ ps.length ≤ 1000 ∧
  ∀ (D : Addr) (ys : List Int) B' H', Ex B B' → ys.Pairwise (· < ·) → (∀ i, i ∈ ys ↔ i ∈ ((A.st.recS js ps).filter A.st.isSold).map fun k => A.st.cli (A.st.topOf k)) → Ok ⟨B, H, []⟩ B' [(D, .lst (ys.map V.int))] H' → Q (.ref D) H'
section
variable {P : Program} {w : World} {K : PySem.W.Frag} {mg : Str → Option Value} {base : Heap}
end
end LW

namespace LW
open PySem PySem.Spec PyProof.Rows L2 WK PM
abbrev s_BadPart___init__ : Stmt := inClass (topS 4) 0
theorem sc_BadPart___init__ : FnScope ["self", "name"] ["self", "name"] (defScope s_BadPart___init__) := ⟨rfl, rfl, rfl, by decide +kernel, rfl, by decide +kernel, by decide +kernel⟩
abbrev s_Lacks___init__ : Stmt := inClass (topS 6) 0
theorem sc_Lacks___init__ : FnScope ["self", "name"] ["self", "name"] (defScope s_Lacks___init__) := ⟨rfl, rfl, rfl, by decide +kernel, rfl, by decide +kernel, by decide +kernel⟩
abbrev s_BadPiece___init__ : Stmt := inClass (topS 7) 0
theorem sc_BadPiece___init__ : FnScope ["self", "state"] ["self", "state"] (defScope s_BadPiece___init__) := ⟨rfl, rfl, rfl, by decide +kernel, rfl, by decide +kernel, by decide +kernel⟩
def spNeedManyX (CC : Addr) : Sp := fun vs H Q E => ∃ (n lo hi : Int), vs = [.int n, .int lo, .int hi] ∧ ((lo ≤ n ∧ n ≤ hi) → Q .non H) ∧ (¬ (lo ≤ n ∧ n ≤ hi) → E (.ref CC) none H)
def spNeedPartX (K : PySem.W.Frag) (CP CB : Addr) : Sp := fun vs H Q E => ∃ (B : Hp) (p : Addr) (rs : List PRow) (z : Str), vs = [.ref p, .str z] ∧ Ex B H ∧ BookAt K CP B p rs ∧ ((∃ r, PM.rowOf rs z = some r) → Q .non H) ∧
  (PM.rowOf rs z = none → ∀ d, H d = none → E (.ref CB) (some d) (upd H d (.xd [("name", .str z)])))
/-- a piece that there isn't, or in another state -/
def spPieceX (K : PySem.W.Frag) (CF CI CB : Addr) : Sp := fun vs H Q E => ∃ (A : AFl) (n : Int) (a : Addr) (ss : List Str), vs = [.ref A.f, .int n, .ref a] ∧ H A.f = some (.ins CF A.dx (flF A)) ∧ H A.pa = some (.lst (A.pcs.map fun P => .ref P.a)) ∧ (∀ (k : Nat) (P : APc), A.pcs[k]? = some P → H P.a = some (.ins CI P.dx (pcF P))) ∧ SqT K H a (ss.map V.str) ∧ A.pcs.length ≤ 10000 ∧
  (∀ (k : Nat) (P : APc), n = (k : Int) → A.pcs[k]? = some P → P.s.state ∈ ss → Q (.ref P.a) H) ∧
  (∀ z : Str, ((¬ (0 ≤ n ∧ n < A.pcs.length) ∧ z = "") ∨ ∃ (k : Nat) (P : APc), n = (k : Int) ∧ A.pcs[k]? = some P ∧ P.s.state ∉ ss ∧ z = P.s.state) → ∀ d, H d = none → E (.ref CB) (some d) (upd H d (.xd [("state", .str z)])))
theorem rowKV_none {K : PySem.W.Frag} {B : Hp} {kvs : List (Key × V)} {rs : List PRow} {z : Str} (h : RowKV K B kvs rs) (e : PM.rowOf rs z = none) : valV kvs (.inr z) = none := by
  induction h with
  | nil => rfl
  | @cons v q kvs rs hv h ih =>
    unfold PM.rowOf at e ih
    by_cases hz : q.name = z
    · rw [List.find?_cons_of_pos (by simpa using hz)] at e
      cases e
    · rw [List.find?_cons_of_neg (by simpa using hz)] at e
      have h1 := ih e
      unfold valV at h1 ⊢
      rw [List.find?_cons_of_neg (by simp [hz])]
      exact h1
section
variable {P : Program} {w : World} {K : PySem.W.Frag} {mg : Str → Option Value} {base : Heap}
theorem oki_BadPart {f CB CKE : Addr} {mc : Value} {fd : FuncData} (F : Fun K "__init__" "BadPart.__init__" s_BadPart___init__ f fd) (m_KE : mg "KinError" = some (.ref CKE)) (EB : ExBase K CKE mc) (T : OexC K CB) (nf : PySem.W.findIn K (.ref CB) "name" = some none) : FnOk P w K mg base CX0 1 f fd ["self", "name"] (spExI CB "name") := by
  refine F.ok sc_BadPart___init__ (fun vs H Q E h => ?_) (fun cdv A outer s H vs Q E hr h => ?_)
  · obtain ⟨a, y, rfl, _⟩ := h
    rfl
  · obtain ⟨a, y, rfl, ha, kk⟩ := h
    refine ⟨_, pss_cons (ps_expr (pe_baseinit EB m_KE rfl (pa_cons (pv 0) (pa_cons (pv 1) pa_nil)))) (pss_one (ps_ost (pv 0) (pv 1))), ?_⟩
    exact ⟨_, rfl, _, rfl, a, CB, [y], rfl, (by show 1 ≤ 1000; decide), T, ha, _, rfl, _, rfl, a, CB, rfl, T, nf, .inl ⟨ha, fun dx h1 h2 => kk dx h1 h2⟩⟩
theorem oki_Lacks {f CB CKE : Addr} {mc : Value} {fd : FuncData} (F : Fun K "__init__" "Lacks.__init__" s_Lacks___init__ f fd) (m_KE : mg "KinError" = some (.ref CKE)) (EB : ExBase K CKE mc) (T : OexC K CB) (nf : PySem.W.findIn K (.ref CB) "name" = some none) : FnOk P w K mg base CX0 1 f fd ["self", "name"] (spExI CB "name") := by
  refine F.ok sc_Lacks___init__ (fun vs H Q E h => ?_) (fun cdv A outer s H vs Q E hr h => ?_)
  · obtain ⟨a, y, rfl, _⟩ := h
    rfl
  · obtain ⟨a, y, rfl, ha, kk⟩ := h
    refine ⟨_, pss_cons (ps_expr (pe_baseinit EB m_KE rfl (pa_cons (pv 0) (pa_cons (pv 1) pa_nil)))) (pss_one (ps_ost (pv 0) (pv 1))), ?_⟩
    exact ⟨_, rfl, _, rfl, a, CB, [y], rfl, (by show 1 ≤ 1000; decide), T, ha, _, rfl, _, rfl, a, CB, rfl, T, nf, .inl ⟨ha, fun dx h1 h2 => kk dx h1 h2⟩⟩
theorem oki_BadPiece {f CB CKE : Addr} {mc : Value} {fd : FuncData} (F : Fun K "__init__" "BadPiece.__init__" s_BadPiece___init__ f fd) (m_KE : mg "KinError" = some (.ref CKE)) (EB : ExBase K CKE mc) (T : OexC K CB) (nf : PySem.W.findIn K (.ref CB) "state" = some none) : FnOk P w K mg base CX0 1 f fd ["self", "state"] (spExI CB "state") := by
  refine F.ok sc_BadPiece___init__ (fun vs H Q E h => ?_) (fun cdv A outer s H vs Q E hr h => ?_)
  · obtain ⟨a, y, rfl, _⟩ := h
    rfl
  · obtain ⟨a, y, rfl, ha, kk⟩ := h
    refine ⟨_, pss_cons (ps_expr (pe_baseinit EB m_KE rfl (pa_cons (pv 0) (pa_cons (pv 1) pa_nil)))) (pss_one (ps_ost (pv 0) (pv 1))), ?_⟩
    exact ⟨_, rfl, _, rfl, a, CB, [y], rfl, (by show 1 ≤ 1000; decide), T, ha, _, rfl, _, rfl, a, CB, rfl, T, nf, .inl ⟨ha, fun dx h1 h2 => kk dx h1 h2⟩⟩
theorem okX_need_many {f CC : Addr} {fd : FuncData} (F : Fun K "need_many" "need_many" s_need_many f fd) (X_BadCount : ExT K mg "BadCount" CC) : FnOk P w K mg base (L2.CX P w) 1 f fd ["number", "low", "high"] (spNeedManyX CC) := by
  refine F.okX sc_need_many (fun vs H Q E h => ?_) (fun cdv A outer s H vs Q E hr h => ?_)
  · obtain ⟨n, lo, hi, rfl, _⟩ := h
    rfl
  · obtain ⟨n, lo, hi, rfl, k1, k2⟩ := h
    refine with_al (P := P) (w := w) (K := K) hr (fun al => ?_)
    refine ⟨_, (pss_one (ps_if (pt_not (pt_chain (opU al) (opU al) (pv 1) (pv 0) (pv 2))) (pss_one (ps_rzT X_BadCount (takes_of rfl rfl rfl rfl) rfl rfl)) pss_nil)), ?_⟩
    by_cases hc : lo ≤ n ∧ n ≤ hi
    · obtain ⟨h1, h2⟩ := id hc
      repeat tb_start
      exact k1 hc
    · repeat tb_start
      refine ifd (fun h1 => ?_) (fun h1 => ?_)
      · repeat tb_start
        exact k2 hc
      · repeat tb_start
        exact k2 hc
theorem okX_need_part {f CP CB : Addr} {fd : FuncData} (F : Fun K "need_part" "Parts.need_part" s_Parts_need_part f fd) (clP : Cls K CP) (nRows : NoAttr K CP "rows") (X_BadPart : ExK P w K mg base "BadPart" CB "name") : FnOk P w K mg base (L2.CX P w) 3 f fd ["self", "name"] (spNeedPartX K CP CB) := by
  refine F.okX sc_Parts_need_part (fun vs H Q E h => ?_) (fun cdv A outer s H vs Q E hr h => ?_)
  · obtain ⟨B, p, rs, z, rfl, _⟩ := h
    rfl
  · obtain ⟨B, p, rs, z, rfl, ex, ⟨dx, a, l, rkv, lkv, h1, h2, h3, RK, LK⟩, k1, k2⟩ := h
    have S := Ok.start0 ex
    refine with_al (P := P) (w := w) (K := K) hr (fun al => ?_)
    refine ⟨_, (pss_one (ps_if (pt_cmpR (opU al) (pv 1) (pe_fldU K (pv 0) rfl) rfl) (pss_one (ps_rzK X_BadPart (takes_of rfl rfl rfl rfl) (hr.mono (by first | decide | omega)) rfl rfl (pv 1))) pss_nil)), ?_⟩
    repeat tb_start
    cases e : PM.rowOf rs z with
    | some r =>
      obtain ⟨v, hv1, hv2⟩ := rowKV_get RK e
      have yes : (valV rkv (.inr z)).isSome = true := by rw [hv1]; rfl
      rw [yes]
      repeat tb_start
      exact k1 ⟨r, e⟩
    | none =>
      have no : (valV rkv (.inr z)).isSome = false := by rw [rowKV_none RK e]; rfl
      rw [no]
      repeat tb_start
      exact fun d hd => k2 e d hd
theorem okX_piece {f CP CF CL CI CB : Addr} {fd : FuncData} (F : Fun K "piece" "Floor.piece" s_Floor_piece f fd) (fk : FlK K CP CF CL CI) (n_len : mg "len" = none) (X_BadPiece : ExK P w K mg base "BadPiece" CB "state") : FnOk P w K mg base (L2.CX P w) 3 f fd ["self", "number", "states"] (spPieceX K CF CI CB) := by
  obtain ⟨cP, cF, cL, cI, a1, a2, b1, b2, b3, b4, b5, b6, b7, c1, c2, c3, d1, d2, d3, d4, d5, d6, d7, d8⟩ := fk
  refine F.okX sc_Floor_piece (fun vs H Q E h => ?_) (fun cdv A outer s H vs Q E hr h => ?_)
  · obtain ⟨A, n, a, ss, rfl, _⟩ := h
    rfl
  · obtain ⟨A, n, a, ss, rfl, hF, hL, hPs, hs, hle, k1, k2⟩ := h
    have hsl : SqL K H A.pa (A.pcs.map fun P => .ref P.a) := .inl (.inl hL)
    refine with_al (P := P) (w := w) (K := K) hr (fun al => ?_)
    refine ⟨_, (pss_cons (ps_if (pt_not (pt_chain (opU al) (opU al) pe_int (pv 1) (pe_callB (callU al) (by rfl) n_len b_len (pa_cons (pe_fldU K (pv 0) rfl) pa_nil)))) (pss_one (ps_rzK X_BadPiece (takes_of rfl rfl rfl rfl) (hr.mono (by first | decide | omega)) rfl rfl pe_str)) pss_nil) (pss_cons (ps_asg (pe_ix (ixU al) (pe_fldU K (pv 0) rfl) (pv 1) (fun _ _ => rfl)) (pg_name (i := 3) sc_Floor_piece.nd rfl (by first | exact Or.inl rfl | exact Or.inr rfl))) (pss_cons (ps_if (pt_cmpR (opU al) (pe_fldU K (pv 3) rfl) (pv 2) rfl) (pss_one (ps_rzK X_BadPiece (takes_of rfl rfl rfl rfl) (hr.mono (by first | decide | omega)) rfl rfl (pe_fldU K (pv 3) rfl))) pss_nil) (pss_one (ps_ret (pv 3)))))), ?_⟩
    by_cases hc : 0 ≤ n ∧ n < (A.pcs.length : Int)
    · obtain ⟨hc1, hc2⟩ := id hc
      obtain ⟨j, rfl⟩ : ∃ j : Nat, n = (j : Int) := ⟨n.toNat, by omega⟩
      have hj : j < A.pcs.length := by omega
      obtain ⟨Pc, hP⟩ : ∃ Pc, A.pcs[j]? = some Pc := ⟨_, List.getElem?_eq_getElem hj⟩
      have hPa := hPs j Pc hP
      repeat tb_start
      refine v_ixL hsl (atI_nat (by rw [List.getElem?_map, hP]; rfl)) ?_
      repeat tb_start
      refine v_notInT hs ?_
      by_cases hm : Pc.s.state ∈ ss
      · rw [decide_eq_true hm]
        repeat tb_start
        exact k1 j Pc rfl hP hm
      · rw [decide_eq_false hm]
        repeat tb_start
        exact fun d hd => k2 _ (.inr ⟨j, Pc, rfl, hP, hm, rfl⟩) d hd
    · repeat tb_start
      refine ifd (fun h1 => ?_) (fun h1 => ?_)
      · repeat tb_start
        exact fun d hd => k2 "" (.inl ⟨hc, rfl⟩) d hd
      · repeat tb_start
        exact fun d hd => k2 "" (.inl ⟨hc, rfl⟩) d hd
end
end LW

namespace LW
open PySem PySem.Spec PyProof.Rows L2 WK PM
structure Exs where
  part : Addr
  count : Addr
  lacks : Addr
  piece : Addr
  lot : Addr
  parts : Addr
  text : Addr
  kin : Addr
/-- a refusal -/
inductive Rf where
  | part (z : Str)
  | count
  | lacks (z : Str)
  | piece (z : Str)
  | lot
  | parts (i : Int)
  | text (i : Int)
/-- how a refusal lies in what stays -/
def Rz (X : Exs) (B : Hp) : Rf → Value → Option Addr → Prop
  | .part z, c, d => c = .ref X.part ∧ ∃ a, d = some a ∧ B a = some (.xd [("name", .str z)])
  | .count, c, d => c = .ref X.count ∧ d = none
  | .lacks z, c, d => c = .ref X.lacks ∧ ∃ a, d = some a ∧ B a = some (.xd [("name", .str z)])
  | .piece z, c, d => c = .ref X.piece ∧ ∃ a, d = some a ∧ B a = some (.xd [("state", .str z)])
  | .lot, c, d => c = .ref X.lot ∧ d = none
  | .parts i, c, d => c = .ref X.parts ∧ ∃ a, d = some a ∧ B a = some (.xd [("at", .int i)])
  | .text i, c, d => c = .ref X.text ∧ ∃ a, d = some a ∧ B a = some (.xd [("row", .int i)])
/-- refused: the floor stands as it did -/
def RefQ (X : Exs) (CF CL CI : Addr) (B H : Hp) (A : AFl) (r : Rf) (E : XK) : Prop := ∀ c d B' H', Ex B B' → Ok ⟨B, H, (FL CF CL CI A).map (·.1)⟩ B' (FL CF CL CI A) H' → Rz X B' r c d → E c d H'
/-- the state of a piece that isn't in some states; an empty text for none -/
def pcRef (fs : Fl) (k : Int) (ss : List Str) : Option Str := match fs.pcAt k with
  | none => some ""
  | some p => if p.state ∈ ss then none else some p.state
theorem pcAt_st {A : AFl} {k : Int} : A.st.pcAt k = if 0 ≤ k then (A.pcs[k.toNat]?).map (·.s) else none := by
  unfold Fl.pcAt AFl.st
  dsimp only
  rw [List.getElem?_map]
theorem pcRef_in {A : AFl} {j : Nat} {P : APc} {ss : List Str} (h : A.pcs[j]? = some P) (hm : P.s.state ∈ ss) : pcRef A.st (j : Int) ss = none := by
  unfold pcRef
  rw [pcAt_st, if_pos (by omega), Int.toNat_natCast, h]
  show (if P.s.state ∈ ss then none else some P.s.state) = none
  rw [if_pos hm]
theorem pcRef_is {A : AFl} {k : Int} {ss : List Str} {z y : Str} (h : pcRef A.st k ss = some z) (hy : (¬ (0 ≤ k ∧ k < A.pcs.length) ∧ y = "") ∨ ∃ (j : Nat) (P : APc), k = (j : Int) ∧ A.pcs[j]? = some P ∧ P.s.state ∉ ss ∧ y = P.s.state) : y = z := by
  unfold pcRef at h
  rw [pcAt_st] at h
  rcases hy with ⟨h1, rfl⟩ | ⟨j, P, rfl, h1, h2, rfl⟩
  · by_cases h0 : 0 ≤ k
    · rw [if_pos h0, List.getElem?_eq_none (by omega)] at h
      exact Option.some.inj h
    · rw [if_neg h0] at h
      exact Option.some.inj h
  · rw [if_pos (by omega), Int.toNat_natCast, h1] at h
    have h : (if P.s.state ∈ ss then none else some P.s.state) = some z := h
    rw [if_neg h2] at h
    exact Option.some.inj h

def spWorkR (K : PySem.W.Frag) (X : Exs) (CP CF CL CI : Addr) : Sp := fun vs H _ E => ∃ (B : Hp) (A : AFl) (k : Int) (z : Str), vs = [.ref A.f, .int k] ∧ FS K CP CF CL CI B H A ∧ pcRef A.st k ["making"] = some z ∧ RefQ X CF CL CI B H A (.piece z) E
def spTestR (K : PySem.W.Frag) (X : Exs) (CP CF CL CI : Addr) : Sp := fun vs H _ E => ∃ (B : Hp) (A : AFl) (k : Int) (z : Str) (g : Bool), vs = [.ref A.f, .int k, .bl g] ∧ FS K CP CF CL CI B H A ∧ pcRef A.st k ["made", "stock"] = some z ∧ RefQ X CF CL CI B H A (.piece z) E
def spScrapR (K : PySem.W.Frag) (X : Exs) (CP CF CL CI : Addr) : Sp := fun vs H _ E => ∃ (B : Hp) (A : AFl) (k : Int) (z : Str), vs = [.ref A.f, .int k] ∧ FS K CP CF CL CI B H A ∧ pcRef A.st k house = some z ∧ RefQ X CF CL CI B H A (.piece z) E
def spStripR (K : PySem.W.Frag) (X : Exs) (CP CF CL CI : Addr) : Sp := fun vs H _ E => ∃ (B : Hp) (A : AFl) (k : Int) (z : Str), vs = [.ref A.f, .int k] ∧ FS K CP CF CL CI B H A ∧ pcRef A.st k ["bad"] = some z ∧ RefQ X CF CL CI B H A (.piece z) E
def spBackR (K : PySem.W.Frag) (X : Exs) (CP CF CL CI : Addr) : Sp := fun vs H _ E => ∃ (B : Hp) (A : AFl) (k : Int) (z : Str), vs = [.ref A.f, .int k] ∧ FS K CP CF CL CI B H A ∧ pcRef A.st k ["sold"] = some z ∧ RefQ X CF CL CI B H A (.piece z) E
def spStateOfX (K : PySem.W.Frag) (X : Exs) (CP CF CL CI : Addr) : Sp := fun vs H _ E => ∃ (B : Hp) (A : AFl) (k : Int) (z : Str), vs = [.ref A.f, .int k] ∧ Ok ⟨B, H, (FL CF CL CI A).map (·.1)⟩ B (FL CF CL CI A) H ∧ A.pcs.length ≤ 10000 ∧ pcRef A.st k allStates = some z ∧ RefQ X CF CL CI B H A (.piece z) E
def spReworkR (K : PySem.W.Frag) (X : Exs) (CP CF CL CI : Addr) : Sp := fun vs H _ E => ∃ (B : Hp) (A : AFl) (k a : Int) (r : Rf), vs = [.ref A.f, .int k, .int a] ∧ FS K CP CF CL CI B H A ∧ ((∃ z, pcRef A.st k ["bad"] = some z ∧ r = .piece z) ∨ (r = .count ∧ ∃ (j : Nat) (P : APc) (q : PRow), k = (j : Int) ∧ A.pcs[j]? = some P ∧ P.s.state = "bad" ∧ PM.rowOf A.rs P.s.part = some q ∧ ¬ (0 ≤ a ∧ a < q.steps.length))) ∧ RefQ X CF CL CI B H A r E
def spSellR (K : PySem.W.Frag) (X : Exs) (CP CF CL CI : Addr) : Sp := fun vs H _ E => ∃ (B : Hp) (A : AFl) (k a : Int) (r : Rf), vs = [.ref A.f, .int k, .int a] ∧ FS K CP CF CL CI B H A ∧ ((∃ z, pcRef A.st k ["stock"] = some z ∧ r = .piece z) ∨ (r = .count ∧ ∃ (j : Nat) (P : APc), k = (j : Int) ∧ A.pcs[j]? = some P ∧ P.s.state = "stock" ∧ ¬ (0 ≤ a ∧ a ≤ 99))) ∧ RefQ X CF CL CI B H A r E
def spSwapR (K : PySem.W.Frag) (X : Exs) (CP CF CL CI : Addr) : Sp := fun vs H _ E => ∃ (B : Hp) (A : AFl) (k o n : Int) (r : Rf), vs = [.ref A.f, .int k, .int o, .int n] ∧ FS K CP CF CL CI B H A ∧ ((∃ z, pcRef A.st k ["bad"] = some z ∧ r = .piece z) ∨ ∃ (j : Nat) (P : APc), k = (j : Int) ∧ A.pcs[j]? = some P ∧ P.s.state = "bad" ∧
  ((¬ (0 ≤ o ∧ o.toNat ∈ pcsOf P.s.holds) ∧ r = .piece "") ∨ (0 ≤ o ∧ o.toNat ∈ pcsOf P.s.holds ∧ ((∃ z, pcRef A.st n ["stock"] = some z ∧ r = .piece z) ∨ ∃ (i : Nat) (R Q : APc), n = (i : Int) ∧ A.pcs[i]? = some R ∧ R.s.state = "stock" ∧ A.pcs[o.toNat]? = some Q ∧ R.s.part ≠ Q.s.part ∧ r = .part R.s.part)))) ∧ RefQ X CF CL CI B H A r E
section
variable {P : Program} {w : World} {K : PySem.W.Frag} {mg : Str → Option Value} {base : Heap} {X : Exs}
theorem RefQ.pc {CF CL CI : Addr} {B H B1 H1 : Hp} {A : AFl} {z y : Str} {E : XK} {d : Addr} (kk : RefQ X CF CL CI B H A (.piece z) E) (S : Ok ⟨B, H, (FL CF CL CI A).map (·.1)⟩ B1 (FL CF CL CI A ++ []) H1) (e : Ex B B1) (h : y = z) (hd : H1 d = none) : E (.ref X.piece) (some d) (upd H1 d (.xd [("state", .str y)])) := by
  subst h
  exact kk _ _ _ _ (e.trans (S.exB hd)) (S.newB hd).nil2 ⟨rfl, d, rfl, upd_same⟩
theorem RefQ.pt {CF CL CI : Addr} {B H B1 H1 : Hp} {A : AFl} {z : Str} {E : XK} {d : Addr} (kk : RefQ X CF CL CI B H A (.part z) E) (S : Ok ⟨B, H, (FL CF CL CI A).map (·.1)⟩ B1 (FL CF CL CI A ++ []) H1) (e : Ex B B1) (hd : H1 d = none) : E (.ref X.part) (some d) (upd H1 d (.xd [("name", .str z)])) :=
  kk _ _ _ _ (e.trans (S.exB hd)) (S.newB hd).nil2 ⟨rfl, d, rfl, upd_same⟩
theorem RefQ.lk {CF CL CI : Addr} {B H B1 H1 : Hp} {A : AFl} {z : Str} {E : XK} {d : Addr} (kk : RefQ X CF CL CI B H A (.lacks z) E) (S : Ok ⟨B, H, (FL CF CL CI A).map (·.1)⟩ B1 (FL CF CL CI A ++ []) H1) (e : Ex B B1) (hd : H1 d = none) : E (.ref X.lacks) (some d) (upd H1 d (.xd [("name", .str z)])) :=
  kk _ _ _ _ (e.trans (S.exB hd)) (S.newB hd).nil2 ⟨rfl, d, rfl, upd_same⟩
theorem RefQ.ct {CF CL CI : Addr} {B H B1 H1 : Hp} {A : AFl} {E : XK} (kk : RefQ X CF CL CI B H A .count E) (S : Ok ⟨B, H, (FL CF CL CI A).map (·.1)⟩ B1 (FL CF CL CI A ++ []) H1) (e : Ex B B1) : E (.ref X.count) none H1 :=
  kk _ _ _ _ e S.nil2 ⟨rfl, rfl⟩
theorem okR_work {f CP CF CL CI : Addr} {fd : FuncData} (F : Fun K "work" "Floor.work" s_Floor_work f fd) (GX_piece : MtGX P w K mg base 3 CF "piece" ["self", "number", "states"] (spPieceX K CF CI X.piece)) (fk : FlK K CP CF CL CI) (c_MAKING : GlS mg "MAKING" "making") : FnOk P w K mg base (L2.CX P w) 4 f fd ["self", "number"] (spWorkR K X CP CF CL CI) := by
  obtain ⟨cP, cF, cL, cI, a1, a2, b1, b2, b3, b4, b5, b6, b7, c1, c2, c3, d1, d2, d3, d4, d5, d6, d7, d8⟩ := fk
  refine F.okX sc_Floor_work (fun vs H Q E h => ?_) (fun cdv Ar outer s H vs Q E hr h => ?_)
  · obtain ⟨B, A, k, z, rfl, _⟩ := h
    rfl
  · obtain ⟨B, A, k, z, rfl, ⟨S, fb, hfew⟩, hz, kk⟩ := h
    have hfew2 := fb.few
    have S0 := S.nil1
    refine with_al (P := P) (w := w) (K := K) hr (fun al => ?_)
    refine ⟨_, (pss_cons (ps_asg (pe_mthX GX_piece (hr.mono (by first | decide | omega)) (passes_call (takes_of rfl rfl rfl rfl) (fun _ _ _ _ hh => hh)) (pv 0) (pa_cons (pv 1) (pa_cons (pe_tup (pa_cons (pe_gs c_MAKING rfl) pa_nil)) pa_nil))) (pg_name (i := 2) sc_Floor_work.nd rfl (by first | exact Or.inl rfl | exact Or.inr rfl))) (pss_cons ps_never (pss_cons ps_never (pss_cons ps_never (pss_cons ps_never (pss_cons ps_never (pss_cons ps_never (pss_one ps_never)))))))), ?_⟩
    repeat tb_start
    refine new_tup S0 (by show 1 ≤ sizeLine; decide) fun t1 B1 H1 e1 ht1 S1 => ?_
    refine ⟨A, k, t1, ["making"], rfl, by kts_caught, by kts_caught, fun j Pc hP => S1.flPc hP, S1.tqStay ht1, by omega, fun j Pc hk hP hm => ?_, fun y hy d hd => kk.pc S1 e1 (pcRef_is hz hy) hd⟩
    subst hk
    rw [pcRef_in hP hm] at hz
    cases hz
theorem okR_test {f CP CF CL CI : Addr} {fd : FuncData} (F : Fun K "test" "Floor.test" s_Floor_test f fd) (GX_piece : MtGX P w K mg base 3 CF "piece" ["self", "number", "states"] (spPieceX K CF CI X.piece)) (fk : FlK K CP CF CL CI) (c_MADE : GlS mg "MADE" "made") (c_STOCK : GlS mg "STOCK" "stock") : FnOk P w K mg base (L2.CX P w) 4 f fd ["self", "number", "good"] (spTestR K X CP CF CL CI) := by
  obtain ⟨cP, cF, cL, cI, a1, a2, b1, b2, b3, b4, b5, b6, b7, c1, c2, c3, d1, d2, d3, d4, d5, d6, d7, d8⟩ := fk
  refine F.okX sc_Floor_test (fun vs H Q E h => ?_) (fun cdv Ar outer s H vs Q E hr h => ?_)
  · obtain ⟨B, A, k, z, g, rfl, _⟩ := h
    rfl
  · obtain ⟨B, A, k, z, g, rfl, ⟨S, fb, hfew⟩, hz, kk⟩ := h
    have hfew2 := fb.few
    have S0 := S.nil1
    refine with_al (P := P) (w := w) (K := K) hr (fun al => ?_)
    refine ⟨_, (pss_cons (ps_asg (pe_mthX GX_piece (hr.mono (by first | decide | omega)) (passes_call (takes_of rfl rfl rfl rfl) (fun _ _ _ _ hh => hh)) (pv 0) (pa_cons (pv 1) (pa_cons (pe_tup (pa_cons (pe_gs c_MADE rfl) (pa_cons (pe_gs c_STOCK rfl) pa_nil))) pa_nil))) (pg_name (i := 3) sc_Floor_test.nd rfl (by first | exact Or.inl rfl | exact Or.inr rfl))) (pss_cons ps_never (pss_one ps_never))), ?_⟩
    repeat tb_start
    refine new_tup S0 (by show 2 ≤ sizeLine; decide) fun t1 B1 H1 e1 ht1 S1 => ?_
    refine ⟨A, k, t1, ["made", "stock"], rfl, by kts_caught, by kts_caught, fun j Pc hP => S1.flPc hP, S1.tqStay ht1, by omega, fun j Pc hk hP hm => ?_, fun y hy d hd => kk.pc S1 e1 (pcRef_is hz hy) hd⟩
    subst hk
    rw [pcRef_in hP hm] at hz
    cases hz
theorem okR_scrap {f CP CF CL CI TH : Addr} {fd : FuncData} (F : Fun K "scrap" "Floor.scrap" s_Floor_scrap f fd) (GX_piece : MtGX P w K mg base 3 CF "piece" ["self", "number", "states"] (spPieceX K CF CI X.piece)) (fk : FlK K CP CF CL CI) (c_HOUSE : GlV mg "HOUSE" (.ref TH)) (hTH : ∀ H, SqT K H TH (house.map V.str)) : FnOk P w K mg base (L2.CX P w) 4 f fd ["self", "number"] (spScrapR K X CP CF CL CI) := by
  obtain ⟨cP, cF, cL, cI, a1, a2, b1, b2, b3, b4, b5, b6, b7, c1, c2, c3, d1, d2, d3, d4, d5, d6, d7, d8⟩ := fk
  refine F.okX sc_Floor_scrap (fun vs H Q E h => ?_) (fun cdv Ar outer s H vs Q E hr h => ?_)
  · obtain ⟨B, A, k, z, rfl, _⟩ := h
    rfl
  · obtain ⟨B, A, k, z, rfl, ⟨S, fb, hfew⟩, hz, kk⟩ := h
    have hfew2 := fb.few
    have S0 := S.nil1
    refine with_al (P := P) (w := w) (K := K) hr (fun al => ?_)
    refine ⟨_, (pss_cons (ps_asg (pe_mthX GX_piece (hr.mono (by first | decide | omega)) (passes_call (takes_of rfl rfl rfl rfl) (fun _ _ _ _ hh => hh)) (pv 0) (pa_cons (pv 1) (pa_cons (pe_gv c_HOUSE rfl) pa_nil))) (pg_name (i := 2) sc_Floor_scrap.nd rfl (by first | exact Or.inl rfl | exact Or.inr rfl))) (pss_cons ps_never (pss_one ps_never))), ?_⟩
    repeat tb_start
    refine ⟨A, k, TH, house, rfl, by kts_caught, by kts_caught, fun j Pc hP => S0.flPc hP, hTH _, by omega, fun j Pc hk hP hm => ?_, fun y hy d hd => kk.pc S0 (Ex.refl _) (pcRef_is hz hy) hd⟩
    subst hk
    rw [pcRef_in hP hm] at hz
    cases hz
theorem okR_state_of {f CP CF CL CI TH : Addr} {fd : FuncData} (F : Fun K "state_of" "Floor.state_of" s_Floor_state_of f fd) (GX_piece : MtGX P w K mg base 3 CF "piece" ["self", "number", "states"] (spPieceX K CF CI X.piece)) (fk : FlK K CP CF CL CI) (c_HOUSE : GlV mg "HOUSE" (.ref TH)) (hTH : ∀ H, SqT K H TH (house.map V.str)) (c_WITHIN : GlS mg "WITHIN" "within") (c_SOLD : GlS mg "SOLD" "sold") (c_SCRAP : GlS mg "SCRAP" "scrap") (c_STRIPPED : GlS mg "STRIPPED" "stripped") : FnOk P w K mg base (L2.CX P w) 4 f fd ["self", "number"] (spStateOfX K X CP CF CL CI) := by
  obtain ⟨cP, cF, cL, cI, a1, a2, b1, b2, b3, b4, b5, b6, b7, c1, c2, c3, d1, d2, d3, d4, d5, d6, d7, d8⟩ := fk
  refine F.okX sc_Floor_state_of (fun vs H Q E h => ?_) (fun cdv Ar outer s H vs Q E hr h => ?_)
  · obtain ⟨B, A, k, z, rfl, _⟩ := h
    rfl
  · obtain ⟨B, A, k, z, rfl, S, hfew, hz, kk⟩ := h
    have S0 := S.nil1
    refine with_al (P := P) (w := w) (K := K) hr (fun al => ?_)
    refine ⟨_, (pss_cons (ps_expr (pe_mthX GX_piece (hr.mono (by first | decide | omega)) (passes_call (takes_of rfl rfl rfl rfl) (fun _ _ _ _ hh => hh)) (pv 0) (pa_cons (pv 1) (pa_cons (pe_op (opU al) (pe_gv c_HOUSE rfl) (pe_tup (pa_cons (pe_gs c_WITHIN rfl) (pa_cons (pe_gs c_SOLD rfl) (pa_cons (pe_gs c_SCRAP rfl) (pa_cons (pe_gs c_STRIPPED rfl) pa_nil)))))) pa_nil)))) (pss_one ps_never)), ?_⟩
    repeat tb_start
    refine new_tup S0 (by show 4 ≤ sizeLine; decide) fun t1 B1 H1 e1 ht1 S1 => ?_
    repeat tb_start
    refine v_catT S1 (hTH _) (S1.tqStay ht1) (by decide) (by decide) (by show 8 ≤ sizeLine; decide) fun t2 B2 H2 e2 ht2 S2 => ?_
    refine ⟨A, k, t2, allStates, rfl, by kts_caught, by kts_caught, fun j Pc hP => S2.flPc hP, S2.tqStay ht2, by omega, fun j Pc hk hP hm => ?_, fun y hy d hd => kk.pc S2 (e1.trans e2) (pcRef_is hz hy) hd⟩
    subst hk
    rw [pcRef_in hP hm] at hz
    cases hz
end
end LW

namespace LW
open PySem PySem.Spec PyProof.Rows L2 WK PM
/-! (the kinds of rows) -/
theorem isBought_row {rs : List PRow} {z : Str} {r : PRow} (h : PM.rowOf rs z = some r) : isBought rs z = (r.needs.isEmpty && r.steps.isEmpty) := by unfold isBought; rw [h]
end LW

namespace LW
open PySem PySem.Spec PyProof.Rows L2 WK PM
/-- too few -/
def spLotsForN (K : PySem.W.Frag) (CF CL CI : Addr) : Sp := fun vs H Q _ => ∃ (B : Hp) (A : AFl) (z : Str) (m : Int), vs = [.ref A.f, .str z, .int m] ∧ Ok ⟨B, H, (FL CF CL CI A).map (·.1)⟩ B (FL CF CL CI A) H ∧ A.lots.length ≤ 10000 ∧ ¬ (takeLots (A.lots.map (·.s)) z m).2 = 0 ∧
  ∀ B' H', Ex B B' → Ok ⟨B, H, (FL CF CL CI A).map (·.1)⟩ B' (FL CF CL CI A) H' → Q .non H'
def spPiecesForN (K : PySem.W.Frag) (CF CL CI : Addr) : Sp := fun vs H Q _ => ∃ (B : Hp) (A : AFl) (z : Str) (m : Nat), vs = [.ref A.f, .str z, .int (m : Int)] ∧ Ok ⟨B, H, (FL CF CL CI A).map (·.1)⟩ B (FL CF CL CI A) H ∧ A.pcs.length ≤ 10000 ∧ ¬ m ≤ (stockOf (A.pcs.map (·.s)) z).length ∧
  ∀ B' H', Ex B B' → Ok ⟨B, H, (FL CF CL CI A).map (·.1)⟩ B' (FL CF CL CI A) H' → Q .non H'
def spLotsForB (K : PySem.W.Frag) (CF CL CI : Addr) : Sp := fun vs H Q E => spLotsFor K CF CL CI vs H Q E ∨ spLotsForN K CF CL CI vs H Q E
def spPiecesForB (K : PySem.W.Frag) (CF CL CI : Addr) : Sp := fun vs H Q E => spPiecesFor K CF CL CI vs H Q E ∨ spPiecesForN K CF CL CI vs H Q E
def spBuyR (K : PySem.W.Frag) (X : Exs) (CP CF CL CI : Addr) : Sp := fun vs H _ E => ∃ (B : Hp) (A : AFl) (z : Str) (m pr : Int) (r : Rf), vs = [.ref A.f, .str z, .int m, .int pr] ∧ FS K CP CF CL CI B H A ∧ ((isBought A.rs z = false ∧ r = .part z) ∨ (isBought A.rs z = true ∧ ¬ ((1 ≤ m ∧ m ≤ 999) ∧ (0 ≤ pr ∧ pr ≤ 9999)) ∧ r = .count)) ∧ RefQ X CF CL CI B H A r E
def spBeginR (K : PySem.W.Frag) (X : Exs) (CP CF CL CI : Addr) : Sp := fun vs H _ E => ∃ (B : Hp) (A : AFl) (z : Str) (r : Rf), vs = [.ref A.f, .str z] ∧ FS K CP CF CL CI B H A ∧ ((PM.rowOf A.rs z = none ∧ r = .part z) ∨ ∃ q, PM.rowOf A.rs z = some q ∧ (((q.needs.isEmpty && q.steps.isEmpty) = true ∧ r = .part z) ∨ ((q.needs.isEmpty && q.steps.isEmpty) = false ∧ ∃ y, A.st.lacking q.needs = some y ∧ r = .lacks y))) ∧ RefQ X CF CL CI B H A r E
theorem isBought_none {rs : List PRow} {z : Str} (h : PM.rowOf rs z = none) : isBought rs z = false := by
  unfold isBought
  rw [h]
/-- the first of which there is too little -/
theorem find_first {α : Type} {p : α → Bool} : ∀ {l : List α} {i : Nat} {x y : α}, l.find? p = some y → l[i]? = some x → p x = true → (∀ (j : Nat) u, j < i → l[j]? = some u → p u = false) → x = y
  | [], _, _, _, h, _, _, _ => by cases h
  | a :: l, 0, x, y, h, hx, hp, _ => by
    cases hx
    rw [List.find?_cons_of_pos hp] at h
    exact Option.some.inj h
  | a :: l, i + 1, x, y, h, hx, hp, hb => by
    have ha := hb 0 a (by omega) rfl
    rw [List.find?_cons_of_neg (by rw [ha]; decide)] at h
    exact find_first h hx hp fun j u hj hu => hb (j + 1) u (by omega) hu
section
variable {P : Program} {w : World} {K : PySem.W.Frag} {mg : Str → Option Value} {base : Heap} {X : Exs}
theorem ok_lots_forN {f CP CF CL CI : Addr} {fd : FuncData} (F : Fun K "lots_for" "Floor.lots_for" s_Floor_lots_for f fd) (fk : FlK K CP CF CL CI) (n_enumerate : mg "enumerate" = none) (n_min : mg "min" = none) : FnOk P w K mg base CX0 1 f fd ["self", "part", "many"] (spLotsForN K CF CL CI) := by
  obtain ⟨cP, cF, cL, cI, a1, a2, b1, b2, b3, b4, b5, b6, b7, c1, c2, c3, d1, d2, d3, d4, d5, d6, d7, d8⟩ := fk
  refine F.ok sc_Floor_lots_for (fun vs H Q E h => ?_) (fun cdv A outer s H vs Q E hr h => ?_)
  · obtain ⟨B, A, z, m, rfl, _⟩ := h
    rfl
  · obtain ⟨B, A, z, m, rfl, S, hlen, hz, kk⟩ := h
    have S0 := S.nil1
    refine with_al (P := P) (w := w) (K := K) hr (fun al => ?_)
    refine ⟨_, (pss_cons (ps_asg pe_dnewK (pg_name (i := 3) sc_Floor_lots_for.nd rfl (by first | exact Or.inl rfl | exact Or.inr rfl))) (pss_cons (ps_for PassesOwn.never rfl (pi_enumV (by rfl) n_enumerate (pa_cons (pe_fldU K (pv 0) rfl) pa_nil)) (pg_tupU (n := 2) K (pgs_cons (pg_name (i := 4) sc_Floor_lots_for.nd rfl (by first | exact Or.inl rfl | exact Or.inr rfl)) (pgs_cons (pg_name (i := 5) sc_Floor_lots_for.nd rfl (by first | exact Or.inl rfl | exact Or.inr rfl)) pgs_nil))) (pss_one (ps_if (PW.pt (pw_and (pt_cmpR (opU al) (pe_fldU K (pv 5) rfl) (pv 1) (nomark _)) (pw_and (pt_cmpR (opU al) (pe_fldU K (pv 5) rfl) pe_int (nomark _)) (pw_and1 (pt_cmpR (opU al) (pv 2) pe_int (nomark _)))))) (pss_cons (ps_asg (pe_callB (callU al) (by rfl) n_min b_min (pa_cons (pe_fldU K (pv 5) rfl) (pa_cons (pv 2) pa_nil))) (pg_sub (pv 3) (pv 4) (setU al))) (pss_one (ps_aug (i := 2) sc_Floor_lots_for.nd rfl (by first | exact Or.inl rfl | exact Or.inr rfl) (pe_ix (ixU al) (pv 3) (pv 4) (fun _ _ => rfl)) (ipU al)))) pss_nil))) (pss_one (ps_ret (pe_ifExp (pt_cmpR (opU al) (pv 2) pe_int (nomark _)) (pv 3) pe_non))))), ?_⟩
    repeat tb_start
    refine new_dK S0 fun D H1 S1 => ?_
    repeat tb_start
    refine enuO S1 (.tail _ mFl) ?_
    have fin : ∀ j, ((A.lots.zipIdx.take j).map fun x : ALot × Nat => (x.1.s, x.2)) = (A.lots.map (·.s)).zipIdx.take j := fun j => by
      rw [List.zipIdx_map, ← List.map_take]
      rfl
    refine forDS (src_enumO (fun x : ALot => V.ref x.a) A.lots) S1 (fun i σ B1 L1 => ∃ acc : List (Nat × Int) × Int, acc = ((A.lots.zipIdx.take i).map fun x => (x.1.s, x.2)).foldl (takeStep z) ([], m) ∧ (∃ yy4 yy5, σ = [some (.ref A.f), some (.str z), some (.int acc.2), some (.ref D), yy4, yy5]) ∧ L1 = (D, .dK (kvN acc.1)) :: (FL CF CL CI A ++ [])) (fun i σ B1 L1 _ ⟨acc, _, _, h⟩ => by rw [h]; exact .tail _ mFl) ?_ ?_ ?_
    · exact ⟨([], m), rfl, ⟨_, _, rfl⟩, rfl⟩
    · rintro i y xv σ B1 B2 L1 H2 hget ⟨acc, hacc, ⟨_, _, rfl⟩, rfl⟩ e1 e2 S2 ⟨T, rfl, hT⟩
      obtain ⟨hy1, hy2⟩ := zipIdx_at hget
      obtain ⟨x, xi⟩ := y
      dsimp only at hy1 hy2 hT
      subst hy2
      refine r_gtupB S2 hT rfl ?_
      repeat tb_start
      have hnew : ∀ k ∈ acc.1.map (·.1), k < xi := fun k hk => by
        rw [hacc] at hk
        rcases takeFold_keys z _ _ k hk with h | h
        · cases h
        · rw [List.map_map] at h
          obtain ⟨q, hq, rfl⟩ := List.mem_map.mp h
          obtain ⟨j, hj⟩ := List.getElem?_of_mem hq
          have hjl := (List.getElem?_eq_some_iff.mp hj).1
          rw [List.length_take] at hjl
          rw [List.getElem?_take_of_lt (by omega)] at hj
          have := (zipIdx_at hj).2
          show q.2 < xi
          omega
      have hstep : ((A.lots.zipIdx.take (xi + 1)).map fun x => (x.1.s, x.2)).foldl (takeStep z) ([], m) = takeStep z acc (x.s, xi) := by
        rw [List.take_add_one, hget, List.map_append, List.foldl_append, ← hacc]
        rfl
      have hno : valV (kvN acc.1) (.inl (xi : Int)) = none := valV_none fun hm => by
        obtain ⟨q, hq, e⟩ := List.mem_map.mp hm
        unfold kvN at hq
        obtain ⟨q2, hq2, rfl⟩ := List.mem_map.mp hq
        have h1 := hnew q2.1 (List.mem_map.mpr ⟨q2, hq2, rfl⟩)
        have h2 : (q2.1 : Int) = (xi : Int) := Sum.inl.inj e
        omega
      have hxl : xi < A.lots.length := (List.getElem?_eq_some_iff.mp hy1).1
      have hkl : (kvN acc.1).length < sizeLine := by
        have h1 := takeFold_len z ((A.lots.zipIdx.take xi).map fun x => (x.1.s, x.2)) ([], m)
        rw [← hacc, List.length_map, List.length_take] at h1
        unfold kvN
        rw [List.length_map, sizeLine_eq]
        simp only [List.length_nil] at h1
        omega
      have same : ¬ (x.s.part = z ∧ 0 < x.s.left ∧ 0 < acc.2) → takeStep z acc (x.s, xi) = acc := fun h => if_neg h
      have skip : ∀ (h : ¬ (x.s.part = z ∧ 0 < x.s.left ∧ 0 < acc.2)) (y3 y4 : Option V), NxE ⟨B, H, (FL CF CL CI A).map (·.1)⟩ B (fun σ B1 L1 => ∃ acc : List (Nat × Int) × Int, acc = ((A.lots.zipIdx.take (xi + 1)).map fun x => (x.1.s, x.2)).foldl (takeStep z) ([], m) ∧ (∃ yy4 yy5, σ = [some (.ref A.f), some (.str z), some (.int acc.2), some (.ref D), yy4, yy5]) ∧ L1 = (D, .dK (kvN acc.1)) :: (FL CF CL CI A ++ [])) [some (.ref A.f), some (.str z), some (.int acc.2), some (.ref D), y3, y4] H2 := fun h y3 y4 =>
        NxE.mk' S2 (by nest_room) ⟨acc, by rw [hstep, same h], ⟨_, _, rfl⟩, rfl⟩
      have hx : H2 x.a = some (.ins CL x.dx (ltF x.s)) := S2.mem (.tail _ (mFlot hy1))
      repeat tb_start
      refine ifd (fun h1 => ?_) (fun h1 => ?_)
      · repeat tb_start
        refine ifd (fun h2 => ?_) (fun h2 => ?_)
        · repeat tb_start
          refine ifd (fun h3 => ?_) (fun h3 => ?_)
          · repeat tb_start
            refine v_setKN (k := .inl (xi : Int)) 0 S2 rfl rfl hkl fun H3 S3 => ?_
            rw [putK_new _ hno] at S3
            replace S3 : Ok ⟨B, H, (FL CF CL CI A).map (·.1)⟩ B2 ((D, .dK (kvN acc.1 ++ [(.inl (xi : Int), .int (if acc.2 < x.s.left then acc.2 else x.s.left))])) :: (FL CF CL CI A ++ [])) H3 := S3
            repeat tb_start
            refine v_ixDI (S3.rdMem (.head _)) (v := .int (if acc.2 < x.s.left then acc.2 else x.s.left)) (by rw [valV_snoc _ _ _ _ hno, if_pos rfl]) ?_
            repeat tb_start
            have h4 : x.s.part = z ∧ 0 < x.s.left ∧ 0 < acc.2 := ⟨h1, h2, h3⟩
            refine NxE.mk' S3 (by nest_room) ?_
            refine ⟨takeStep z acc (x.s, xi), by rw [hstep], ?_, ?_⟩
            · unfold takeStep
              rw [if_pos h4]
              exact ⟨_, _, rfl⟩
            · unfold takeStep
              rw [if_pos h4]
              unfold kvN
              rw [List.map_append]
              rfl
          · exact skip (fun h => h3 h.2.2) _ _
        · exact skip (fun h => h2 h.2.1) _ _
      · exact skip (fun h => h1 h.1) _ _
    · rintro σ B1 L1 H2 ⟨acc, hacc, ⟨_, _, rfl⟩, rfl⟩ e1 S2
      have hA : acc = takeLots (A.lots.map (·.s)) z m := by
        rw [hacc, List.length_zipIdx]
        unfold takeLots
        rw [fin, List.take_of_length_le (by rw [List.length_zipIdx, List.length_map]; exact Nat.le_refl _)]
      subst hA
      repeat tb_start
      exact kk B1 H2 e1 (Ok.nil2 (Ok.drop S2))
theorem ok_pieces_forN {f CP CF CL CI : Addr} {fd : FuncData} (F : Fun K "pieces_for" "Floor.pieces_for" s_Floor_pieces_for f fd) (fk : FlK K CP CF CL CI) (n_enumerate : mg "enumerate" = none) (n_len : mg "len" = none) (c_STOCK : GlS mg "STOCK" "stock") : FnOk P w K mg base CX0 1 f fd ["self", "part", "many"] (spPiecesForN K CF CL CI) := by
  obtain ⟨cP, cF, cL, cI, a1, a2, b1, b2, b3, b4, b5, b6, b7, c1, c2, c3, d1, d2, d3, d4, d5, d6, d7, d8⟩ := fk
  refine F.ok sc_Floor_pieces_for (fun vs H Q E h => ?_) (fun cdv A outer s H vs Q E hr h => ?_)
  · obtain ⟨B, A, z, m, rfl, _⟩ := h
    rfl
  · obtain ⟨B, A, z, m, rfl, S, hlen, hz, kk⟩ := h
    have S0 := S.nil1
    refine with_al (P := P) (w := w) (K := K) hr (fun al => ?_)
    refine ⟨_, (pss_cons (ps_setLc (i := 3) (own := [("number", 4), ("piece", 5)]) al.calm sc_Floor_pieces_for.nd rfl rfl (sw_true rfl rfl rfl (by decide +kernel)) (pi_enumV (by rfl) n_enumerate (pa_cons (pe_fldU K (pv 0) rfl) pa_nil)) (blkOk_by (own := [("number", 4), ("piece", 5)]) (N := ["self", "part", "many", "some", "number", "piece"]) (sc := (defScope s_Floor_pieces_for)) (by decide +kernel)) (fun _ _ _ _ _ => (pg_tupU (n := 2) K (pgs_cons (pg_name (i := 4) sc_Floor_pieces_for.nd rfl (by first | exact Or.inl rfl | exact Or.inr rfl)) (pgs_cons (pg_name (i := 5) sc_Floor_pieces_for.nd rfl (by first | exact Or.inl rfl | exact Or.inr rfl)) pgs_nil)))) (fun _ _ _ _ _ => pts_one (PW.pt (pw_and (pt_cmpR (opU al) (pe_fldU K (pv 5) rfl) (pv 1) (nomark _)) (pw_and1 (pt_cmpR (opU al) (pe_fldU K (pv 5) rfl) (pe_gs c_STOCK rfl) (nomark _)))))) (fun _ _ _ _ _ => (pv 4))) (pss_one (ps_ret (pe_ifExp (pt_cmpR (opU al) (pe_callB (callU al) (by rfl) n_len b_len (pa_cons (pv 3) pa_nil)) (pv 2) (nomark _)) (pe_slice (slU al) (pv 3) po_none (po_some (pv 2))) pe_non)))), ?_⟩
    repeat tb_start
    refine enuO S0 mFp ?_
    refine lcPure K (src_enumO (fun x : APc => V.ref x.a) A.pcs) S0 (fun B1 D acc e => .tail _ mFp) (fun y => decide (y.1.s.part = z) && decide (y.1.s.state = sStock)) (fun y => .int (y.2 : Int)) (by rw [List.length_zipIdx]; omega) ?_ ?_
    · rintro y xv B1 D acc H1 C Cs hy e1 S1 ⟨T, rfl, hT⟩ kC kS
      obtain ⟨i, hi⟩ := List.getElem?_of_mem hy
      obtain ⟨hy1, hy2⟩ := zipIdx_at hi
      obtain ⟨x, xi⟩ := y
      dsimp only at hy1 hy2 hT kC kS ⊢
      have hx : H1 x.a = some (.ins CI x.dx (pcF x)) := S1.mem (.tail _ (mFpc hy1))
      refine r_gtupB S1 hT rfl ?_
      repeat tb_start
      refine ⟨rfl, ?_⟩
      repeat tb_start
      refine ifd (fun h1 => ?_) (fun h1 => ?_)
      · repeat tb_start
        refine ifd (fun h2 => ?_) (fun h2 => ?_)
        · repeat tb_start
          exact kC _ _ _ (by rw [decide_eq_true h1, decide_eq_true h2]; rfl) (Ex.refl _) S1 (.int _)
        · exact kS _ _ (by rw [decide_eq_false h2, Bool.and_false]) (Ex.refl _) S1
      · exact kS _ _ (by rw [decide_eq_false h1, Bool.false_and]) (Ex.refl _) S1
    · intro D acc B1 H1 e1 S1 hacc
      have hso : ((A.pcs.zipIdx.filter fun y => decide (y.1.s.part = z) && decide (y.1.s.state = sStock)).map fun y => PyData.int (y.2 : Int)) = (stockOf (A.pcs.map (·.s)) z).map fun (k : Nat) => PyData.int (k : Int) := by
        unfold stockOf
        rw [List.zipIdx_map, List.filter_map, List.map_map, List.map_map]
        rfl
      rw [hso] at hacc
      obtain ⟨B2, e2, S2, hD⟩ := S1.toData hacc
      repeat tb_start
      exact kk B2 _ (by nest_room) S2.nil2
theorem okR_buy {f CP CF CL CI : Addr} {fd : FuncData} (F : Fun K "buy" "Floor.buy" s_Floor_buy f fd) (GX_need_part : MtGX P w K mg base 3 CP "need_part" ["self", "name"] (spNeedPartX K CP X.part)) (GX_need_many : FnGX P w K mg base 1 "need_many" ["number", "low", "high"] (spNeedManyX X.count)) (X_BadPart : ExK P w K mg base "BadPart" X.part "name") (G_is_bought : MtG P w K mg base 2 CP "is_bought" ["self", "name"] (spIsBought K CP)) (fk : FlK K CP CF CL CI) (c_MOST_MANY : GlI mg "MOST_MANY" 999) (c_MOST_PRICE : GlI mg "MOST_PRICE" 9999) : FnOk P w K mg base (L2.CX P w) 4 f fd ["self", "part", "many", "price"] (spBuyR K X CP CF CL CI) := by
  obtain ⟨cP, cF, cL, cI, a1, a2, b1, b2, b3, b4, b5, b6, b7, c1, c2, c3, d1, d2, d3, d4, d5, d6, d7, d8⟩ := fk
  refine F.okX sc_Floor_buy (fun vs H Q E h => ?_) (fun cdv Ar outer s H vs Q E hr h => ?_)
  · obtain ⟨B, A, z, m, pr, r, rfl, _⟩ := h
    rfl
  · obtain ⟨B, A, z, m, pr, r, rfl, ⟨S, fb, hfew⟩, hz, kk⟩ := h
    have S0 := S.nil1
    have bk := fb.book
    obtain ⟨bdx, ba, bl, rkv, lkv, hb1, hb2, hb3, RK, LK⟩ := id bk
    refine with_al (P := P) (w := w) (K := K) hr (fun al => ?_)
    refine ⟨_, (pss_cons (ps_expr (pe_mthX GX_need_part (hr.mono (by first | decide | omega)) (passes_call (takes_of rfl rfl rfl rfl) (fun _ _ _ _ hh => hh)) (pe_fldU K (pv 0) rfl) (pa_cons (pv 1) pa_nil))) (pss_cons (ps_if (pt_not (pt_val (pe_mth G_is_bought (hr.mono (by first | decide | omega)) (pe_fldU K (pv 0) rfl) (pa_cons (pv 1) pa_nil)))) (pss_one (ps_rzK X_BadPart (takes_of rfl rfl rfl rfl) (hr.mono (by first | decide | omega)) rfl rfl (pv 1))) pss_nil) (pss_cons (ps_expr (pe_fnX GX_need_many (hr.mono (by first | decide | omega)) (passes_call (takes_of rfl rfl rfl rfl) (fun _ _ _ _ hh => hh)) rfl (pa_cons (pv 2) (pa_cons pe_int (pa_cons (pe_gi c_MOST_MANY rfl) pa_nil))))) (pss_cons (ps_expr (pe_fnX GX_need_many (hr.mono (by first | decide | omega)) (passes_call (takes_of rfl rfl rfl rfl) (fun _ _ _ _ hh => hh)) rfl (pa_cons (pv 3) (pa_cons pe_int (pa_cons (pe_gi c_MOST_PRICE rfl) pa_nil))))) (pss_cons ps_never (pss_cons ps_never (pss_cons ps_never (pss_one ps_never)))))))), ?_⟩
    repeat tb_start
    refine ⟨B, A.bk, A.rs, z, rfl, S0.ex, bk, fun ⟨q, hrow⟩ => ?_, fun hrow d hd => ?_⟩
    · have hib := isBought_row hrow
      repeat tb_start
      refine ⟨B, A.bk, A.rs, q, z, rfl, S0.ex, bk, hrow, fun B1 H1 T1 => ?_⟩
      have S1 := S0.callP T1
      have e1 := T1.ex0
      rw [← hib]
      rcases hz with ⟨hz, rfl⟩ | ⟨hz, hno, rfl⟩
      · rw [hz]
        repeat tb_start
        exact fun d hd => kk.pt S1 e1 hd
      · rw [hz]
        repeat tb_start
        refine ⟨m, 1, 999, rfl, fun h1 => ?_, fun _ => kk.ct S1 e1⟩
        repeat tb_start
        exact ⟨pr, 0, 9999, rfl, fun h2 => absurd ⟨h1, h2⟩ hno, fun _ => kk.ct S1 e1⟩
    · rcases hz with ⟨hz, rfl⟩ | ⟨hz, hno, rfl⟩
      · exact kk.pt S0 (Ex.refl _) hd
      · rw [isBought_none hrow] at hz
        cases hz
theorem okR_begin {f CP CF CL CI : Addr} {fd : FuncData} (F : Fun K "begin" "Floor.begin" s_Floor_begin f fd) (GX_need_part : MtGX P w K mg base 3 CP "need_part" ["self", "name"] (spNeedPartX K CP X.part)) (X_BadPart : ExK P w K mg base "BadPart" X.part "name") (X_Lacks : ExK P w K mg base "Lacks" X.lacks "name") (G_is_bought : MtG P w K mg base 2 CP "is_bought" ["self", "name"] (spIsBought K CP)) (G_needs_of : MtG P w K mg base 1 CP "needs_of" ["self", "name"] (spNeedsOf K CP))
    (GB_lots_for : MtG P w K mg base 1 CF "lots_for" ["self", "part", "many"] (spLotsForB K CF CL CI)) (GB_pieces_for : MtG P w K mg base 1 CF "pieces_for" ["self", "part", "many"] (spPiecesForB K CF CL CI)) (fk : FlK K CP CF CL CI) : FnOk P w K mg base (L2.CX P w) 4 f fd ["self", "part"] (spBeginR K X CP CF CL CI) := by
  obtain ⟨cP, cF, cL, cI, a1, a2, b1, b2, b3, b4, b5, b6, b7, c1, c2, c3, d1, d2, d3, d4, d5, d6, d7, d8⟩ := fk
  refine F.okX sc_Floor_begin (fun vs H Q E h => ?_) (fun cdv Ar outer s H vs Q E hr h => ?_)
  · obtain ⟨B, A, z, r, rfl, _⟩ := h
    rfl
  · obtain ⟨B, A, z, r, rfl, ⟨S, fb, hfew⟩, hz, kk⟩ := h
    have hfew2 := fb.few
    have S0 := S.nil1
    have bk := fb.book
    obtain ⟨bdx, ba, bl, rkv, lkv, hb1, hb2, hb3, RK, LK⟩ := id bk
    refine with_al (P := P) (w := w) (K := K) hr (fun al => ?_)
    refine ⟨_, (pss_cons (ps_expr (pe_mthX GX_need_part (hr.mono (by first | decide | omega)) (passes_call (takes_of rfl rfl rfl rfl) (fun _ _ _ _ hh => hh)) (pe_fldU K (pv 0) rfl) (pa_cons (pv 1) pa_nil))) (pss_cons (ps_if (pt_val (pe_mth G_is_bought (hr.mono (by first | decide | omega)) (pe_fldU K (pv 0) rfl) (pa_cons (pv 1) pa_nil))) (pss_one (ps_rzK X_BadPart (takes_of rfl rfl rfl rfl) (hr.mono (by first | decide | omega)) rfl rfl (pv 1))) pss_nil) (pss_cons (ps_asg (pe_lst pa_nil) (pg_name (i := 2) sc_Floor_begin.nd rfl (by first | exact Or.inl rfl | exact Or.inr rfl))) (pss_cons (ps_for (passes_of rfl) rfl (pi_val al (pe_mth G_needs_of (hr.mono (by first | decide | omega)) (pe_fldU K (pv 0) rfl) (pa_cons (pv 1) pa_nil))) (pg_tupU (n := 2) K (pgs_cons (pg_name (i := 3) sc_Floor_begin.nd rfl (by first | exact Or.inl rfl | exact Or.inr rfl)) (pgs_cons (pg_name (i := 4) sc_Floor_begin.nd rfl (by first | exact Or.inl rfl | exact Or.inr rfl)) pgs_nil))) (pss_cons (ps_cut (ps_asg (pe_ifExp (pt_val (pe_mth G_is_bought (hr.mono (by first | decide | omega)) (pe_fldU K (pv 0) rfl) (pa_cons (pv 3) pa_nil))) (pe_frzA (pe_mth GB_lots_for (hr.mono (by first | decide | omega)) (pv 0) (pa_cons (pv 3) (pa_cons (pv 4) pa_nil)))) (pe_mth GB_pieces_for (hr.mono (by first | decide | omega)) (pv 0) (pa_cons (pv 3) (pa_cons (pv 4) pa_nil)))) (pg_name (i := 5) sc_Floor_begin.nd rfl (by first | exact Or.inl rfl | exact Or.inr rfl)))) (pss_cons (ps_if (pt_cmpR op_isN (pv 5) pe_non (nomark _)) (pss_one (ps_rzK X_Lacks (takes_of rfl rfl rfl rfl) (hr.mono (by first | decide | omega)) rfl rfl (pv 3))) pss_nil) (pss_one (ps_expr (pe_bmU K PySem.F.plainAttrs_list PySem.F.slot_list_append PySem.F.type_list_append (metU al) (pv 2) (pa_cons (pv 5) pa_nil))))))) (pss_cons ps_never (pss_cons ps_never (pss_cons ps_never (pss_cons ps_never (pss_cons ps_never (pss_cons ps_never (pss_one ps_never))))))))))), ?_⟩
    repeat tb_start
    refine ⟨B, A.bk, A.rs, z, rfl, S0.ex, bk, fun ⟨q0, hrow⟩ => ?_, fun hrow d hd => ?_⟩
    · repeat tb_start
      refine ⟨B, A.bk, A.rs, q0, z, rfl, S0.ex, bk, hrow, fun B1 H1 T1 => ?_⟩
      have S1 := S0.callP T1
      have e1 := T1.ex0
      rcases hz with ⟨hn, _⟩ | ⟨q, hq, hz⟩
      · rw [hn] at hrow
        cases hrow
      rw [hq] at hrow
      cases hrow
      rcases hz with ⟨hz, rfl⟩ | ⟨hz, y, hlk, rfl⟩
      · rw [hz]
        repeat tb_start
        exact fun d hd => kk.pt S1 e1 hd
      · rw [hz]
        obtain ⟨hnl, hneeds⟩ := need_row fb.good hq
        repeat tb_start
        refine new_lst S1 (by decide) fun T H2 S2 => ?_
        have hbk2 : H2 A.bk = some (.ins CP bdx (fldsP ba bl)) := S2.ex _ _ (e1 _ _ hb1)
        repeat tb_start
        refine ⟨B1, A.bk, A.rs, q0, z, rfl, S2.ex, bk.up e1, hq, fun v hv => ?_⟩
        obtain ⟨xl, hxl, hxy⟩ := Option.map_eq_some_iff.mp (show (q0.needs.find? fun x => (A.st.taken x.1 x.2).isNone).map (·.1) = some y from hlk)
        refine forDT S2 hv (fun i σ B1 L1 => (∃ yy3 yy4 yy5 yy6 yy7, σ = [some (.ref A.f), some (.str z), some (.ref T), yy3, yy4, yy5, yy6, yy7]) ∧ ∃ tvs : List V, L1 = (T, .lst tvs) :: (FL CF CL CI A ++ []) ∧ tvs.length = i ∧ ∀ (j : Nat) u, j < i → q0.needs[j]? = some u → (A.st.taken u.1 u.2).isNone = false) ?_ ?_ ?_
        · exact ⟨⟨_, _, _, _, _, rfl⟩, [], rfl, rfl, fun j u h => by omega⟩
        · rintro i x xv σ B2 B3 L1 H3 hx ⟨⟨_, _, _, _, _, rfl⟩, tvs, rfl, htl, htv⟩ e2 e3 S3 hxv
          obtain ⟨⟨x1, x2⟩, q1, hq1⟩ := hneeds x (List.mem_of_getElem? hx)
          have hil := (List.getElem?_eq_some_iff.mp hx).1
          have bk3 := bk.up (e1.trans (e2.trans e3))
          refine r_gtupSI S3 hxv ?_
          repeat tb_start
          refine cutS (fun σ' H' => ∃ tv, (∃ yy6 yy7, σ' = [some (.ref A.f), some (.str z), some (.ref T), some (.str x.1), some (.int x.2), some (tv), yy6, yy7]) ∧ ∃ B', Ex B3 B' ∧ ((tv ≠ .non ∧ (A.st.taken x.1 x.2).isNone = false) ∨ (tv = .non ∧ (A.st.taken x.1 x.2).isNone = true)) ∧ Ok ⟨B, H, (FL CF CL CI A).map (·.1)⟩ B' ((T, .lst tvs) :: (FL CF CL CI A ++ [])) H') ?_ ?_
          · have hbk3 : H3 A.bk = some (.ins CP bdx (fldsP ba bl)) := S3.ex _ _ ((e1.trans (e2.trans e3)) _ _ hb1)
            repeat tb_start
            refine ⟨B3, A.bk, A.rs, q1, x.1, rfl, S3.ex, bk3, hq1, fun B4 H4 T4 => ?_⟩
            have S4 := S3.callP T4
            have e4 := T4.ex0
            have ht0 := taken_st (A := A) (m := x.2) hq1
            repeat tb_start
            refine ifb (fun hb => ?_) (fun hb => ?_)
            · rw [if_pos hb] at ht0
              repeat tb_start
              have S5 : Ok ⟨B, H, (FL CF CL CI A).map (·.1)⟩ B4 (FL CF CL CI A ++ [(T, .lst tvs)]) H4 := S4.perm (by rw [List.append_nil]; exact (List.perm_append_comm (l₁ := [(T, HO.lst tvs)])))
              by_cases hk : (takeLots (A.lots.map (·.s)) x.1 x.2).2 = 0
              · rw [if_pos hk] at ht0
                refine .inl ⟨B4, A, x.1, x.2, rfl, S5.sub, by omega, hk, fun D B6 H6 e6 T6 => ?_⟩
                have S6 := S5.call T6
                refine frzQ (S6.own _ (.head _)).1 trivial fun od => ?_
                obtain ⟨B7, e7, hD, S7⟩ := S6.freezeD (od := od)
                have S8 : Ok ⟨B, H, (FL CF CL CI A).map (·.1)⟩ B7 ((T, .lst tvs) :: (FL CF CL CI A ++ [])) _ := S7.perm (by rw [List.append_nil]; exact (List.perm_append_comm (l₂ := [(T, HO.lst tvs)])))
                repeat tb_start
                exact ⟨_, ⟨_, _, rfl⟩, B7, by nest_room, .inl ⟨(fun z => nomatch z), by rw [ht0]; rfl⟩, S8⟩
              · rw [if_neg hk] at ht0
                refine .inr ⟨B4, A, x.1, x.2, rfl, S5.sub, by omega, hk, fun B6 H6 e6 T6 => ?_⟩
                have S6 := S5.call T6
                have S8 : Ok ⟨B, H, (FL CF CL CI A).map (·.1)⟩ B6 ((T, .lst tvs) :: (FL CF CL CI A ++ [])) _ := S6.perm (by rw [List.append_nil]; exact (List.perm_append_comm (l₂ := [(T, HO.lst tvs)])))
                refine .inl ?_
                repeat tb_start
                exact ⟨_, ⟨_, _, rfl⟩, B6, by nest_room, .inr ⟨rfl, by rw [ht0]; rfl⟩, S8⟩
            · rw [if_neg (by rw [hb]; decide)] at ht0
              repeat tb_start
              have S5 : Ok ⟨B, H, (FL CF CL CI A).map (·.1)⟩ B4 (FL CF CL CI A ++ [(T, .lst tvs)]) H4 := S4.perm (by rw [List.append_nil]; exact (List.perm_append_comm (l₁ := [(T, HO.lst tvs)])))
              by_cases hk : x.2.toNat ≤ (stockOf (A.pcs.map (·.s)) x.1).length
              · rw [if_pos hk] at ht0
                refine .inl ⟨B4, A, x.1, x.2.toNat, by rw [Int.toNat_of_nonneg (by omega)], S5.sub, by omega, hk, fun v6 B6 H6 e6 T6 h6 => ?_⟩
                have S6 := S5.call T6
                have S8 : Ok ⟨B, H, (FL CF CL CI A).map (·.1)⟩ B6 ((T, .lst tvs) :: (FL CF CL CI A ++ [])) _ := S6.perm (by rw [List.append_nil]; exact (List.perm_append_comm (l₂ := [(T, HO.lst tvs)])))
                have hnn : v6 ≠ .non := by
                  intro z
                  subst z
                  cases h6
                repeat tb_start
                exact ⟨_, ⟨_, _, rfl⟩, B6, by nest_room, .inl ⟨hnn, by rw [ht0]; rfl⟩, S8⟩
              · rw [if_neg hk] at ht0
                refine .inr ⟨B4, A, x.1, x.2.toNat, by rw [Int.toNat_of_nonneg (by omega)], S5.sub, by omega, hk, fun B6 H6 e6 T6 => ?_⟩
                have S6 := S5.call T6
                have S8 : Ok ⟨B, H, (FL CF CL CI A).map (·.1)⟩ B6 ((T, .lst tvs) :: (FL CF CL CI A ++ [])) _ := S6.perm (by rw [List.append_nil]; exact (List.perm_append_comm (l₂ := [(T, HO.lst tvs)])))
                repeat tb_start
                exact ⟨_, ⟨_, _, rfl⟩, B6, by nest_room, .inr ⟨rfl, by rw [ht0]; rfl⟩, S8⟩
          rintro σ4 H4 ⟨tv, ⟨_, _, rfl⟩, B4, e4, hT4, S4⟩
          rcases hT4 with ⟨hnn, hin⟩ | ⟨rfl, hin⟩
          · repeat tb_start
            refine ⟨rfl, ?_⟩
            repeat tb_start
            refine v_appendN 0 S4 rfl (by rw [sizeLine_eq]; omega) fun H5 S5 => ?_
            replace S5 : Ok ⟨B, H, (FL CF CL CI A).map (·.1)⟩ B4 ((T, .lst (tvs ++ [tv])) :: (FL CF CL CI A ++ [])) H5 := S5
            repeat tb_start
            refine NxE.mk' S5 (by nest_room) ?_
            refine ⟨⟨_, _, _, _, _, rfl⟩, tvs ++ [tv], rfl, by rw [List.length_append, htl]; rfl, fun j u hj hu => ?_⟩
            by_cases hji : j < i
            · exact htv j u hji hu
            · obtain rfl : j = i := by omega
              rw [hx] at hu
              cases hu
              exact hin
          · obtain rfl : x = xl := find_first hxl hx hin htv
            subst hxy
            repeat tb_start
            refine ⟨rfl, ?_⟩
            refine r_bl ?_
            refine ifdT rfl ?_
            repeat tb_start
            exact fun d hd => kk.lk (Ok.drop S4) (e1.trans (e2.trans (e3.trans e4))) hd
        · rintro σ B2 L1 H3 ⟨⟨_, _, _, _, _, rfl⟩, tvs, rfl, htl, htv⟩ e2 S3
          exfalso
          obtain ⟨j, hj⟩ := List.getElem?_of_mem (List.mem_of_find?_eq_some hxl)
          have h1 := htv j xl (List.getElem?_eq_some_iff.mp hj).1 hj
          have h2 := List.find?_some hxl
          rw [h1] at h2
          cases h2
    · rcases hz with ⟨hn, rfl⟩ | ⟨q, hq, hz⟩
      · exact kk.pt S0 (Ex.refl _) hd
      · rw [hq] at hrow
        cases hrow
end
end LW

namespace LW
open PySem PySem.Spec PyProof.Rows L2 WK PM
abbrev s__law_kind : Stmt := topS 50
theorem sc__law_kind : FnScope ["_law_call", "e", "_law_kinds"] ["_law_call"] (defScope s__law_kind) := ⟨rfl, rfl, rfl, by decide +kernel, rfl, by decide +kernel, by decide +kernel⟩
/-- what is told of a refusal -/
def rfV : Rf → List V
  | .part z => [.str "part", .str z]
  | .count => [.str "count", .int 0]
  | .lacks z => [.str "lacks", .str z]
  | .piece z => [.str "piece", .str z]
  | .lot => [.str "lot", .int 0]
  | .parts i => [.str "parts", .int i]
  | .text i => [.str "text", .int i]
def Exs.at (X : Exs) : Nat → Addr
  | 0 => X.parts
  | 1 => X.part
  | 2 => X.count
  | 3 => X.lacks
  | 4 => X.piece
  | 5 => X.lot
  | _ => X.text
/-- what the written part tells of a class of refusals, the i-th that is asked for -/
structure KndD (K : PySem.W.Frag) (X : Exs) (i : Nat) : Prop where
  ec : ExcC K (X.at i)
  ex : PySem.W.exmOne K (.ref (X.at i)) (.ref X.kin) = some true
  i0 : PySem.W.kitOne K (.ref (X.at i)) (.ref X.parts) = some (decide (i = 0))
  i1 : PySem.W.kitOne K (.ref (X.at i)) (.ref X.part) = some (decide (i = 1))
  i2 : PySem.W.kitOne K (.ref (X.at i)) (.ref X.count) = some (decide (i = 2))
  i3 : PySem.W.kitOne K (.ref (X.at i)) (.ref X.lacks) = some (decide (i = 3))
  i4 : PySem.W.kitOne K (.ref (X.at i)) (.ref X.piece) = some (decide (i = 4))
  i5 : PySem.W.kitOne K (.ref (X.at i)) (.ref X.lot) = some (decide (i = 5))
  i6 : PySem.W.kitOne K (.ref (X.at i)) (.ref X.text) = some (decide (i = 6))
  ve : PySem.W.kitOne K (.ref (X.at i)) (.type "ValueError") = some true
structure KndF (K : PySem.W.Frag) (X : Exs) (i : Nat) (f : Str) : Prop where
  d : KndD K X i
  x : XfC K (X.at i)
  n : PySem.W.findIn K (.ref (X.at i)) f = some none
def KndR (K : PySem.W.Frag) (X : Exs) : Rf → Prop
  | .part _ => KndF K X 1 "name"
  | .count => KndD K X 2
  | .lacks _ => KndF K X 3 "name"
  | .piece _ => KndF K X 4 "state"
  | .lot => KndD K X 5
  | .parts _ => KndF K X 0 "at"
  | .text _ => KndF K X 6 "row"
theorem if_c0 {c : Bool} {A B : Prop} (h : c = false) (k : B) : if c = true then A else B := by
  subst h
  exact k
def rfIx : Rf → Nat
  | .part _ => 1
  | .count => 2
  | .lacks _ => 3
  | .piece _ => 4
  | .lot => 5
  | .parts _ => 0
  | .text _ => 6
/-- what comes of _law_kind(a): a's reading -/
def TTkind (K : PySem.W.Frag) (X : Exs) : (XK → Hp → VK → Prop) → Hp → VK → Prop := fun tl H Q =>
  tl (fun cls d H' => ∃ r, KndR K X r ∧ Rz X H' r cls d ∧ ∀ t H'', Ex H' H'' → H' t = none → H'' t = some (.tup (rfV r)) → Q (.ref t) H'') H
    (fun _ H' => ([V.str "", V.int 0] : List V).length ≤ sizeLine ∧ ∀ t, H' t = none → Q (.ref t) (upd H' t (.tup [.str "", .int 0])))
/-- isinstance of the caught one, whatever its class -/
def rIsA (K : PySem.W.Frag) (a : Addr) (cls : Value) (d : Option Addr) : List V → Hp → VK → Prop := fun xs H Q => ∃ D, cls = .ref D ∧ ExcC K D ∧ rIsD K D a d xs H Q
theorem call_isA {X : Cx} {a : Addr} {cls : Value} {d : Option Addr} {oe : Obj} {pn : List (Addr × Obj)} (hz : Zc cls d oe) (hf : ∃ vs, oe.data = .fields vs) : CallR (X.suite a ((a, oe) :: pn)) (.builtin "isinstance") (rIsA X.K a cls d) := by
  intro pins s σ H xs us Q I r hw
  obtain ⟨D, rfl, C, hw⟩ := hw
  exact call_isD C hz hf pins s σ H xs us Q I r hw
/-- its field, whatever its class -/
def tXfA (K : PySem.W.Frag) (a : Addr) (cls : Value) (d : Option Addr) (f : Str) (te : TE) : TE := fun σ H Q => ∃ C, XfC K C ∧ PySem.W.findIn K (.ref C) f = some none ∧ tXf a cls d C f te σ H Q
theorem pe_xfA {X : Cx} {a : Addr} {oe : Obj} {cls : Value} {d : Option Addr} {pn : List (Addr × Obj)} {e : Expr} {te : TE} {pos : Pos} {n : Str} (hz : Zc cls d oe) (hf : ∃ vs, oe.data = .fields vs) (he : PE (X.suite a ((a, oe) :: pn)) e te) (hb : attributeBase e n X.env (eval e X.env) = eval e X.env := by rfl) :
    PE (X.suite a ((a, oe) :: pn)) (.Attribute e n pos) (tXfA X.K a cls d n te) :=
  ⟨fun pins s σ H Q I hw => let ⟨_, T, hno, h⟩ := hw; (pe_xf T hno hz hf he hb).run pins s σ H Q I h⟩
theorem isA_go {K : PySem.W.Frag} {X : Exs} {i : Nat} {a C : Addr} {d : Option Addr} {b : Bool} {H : Hp} {Q : VK} (k : KndD K X i) (h : PySem.W.kitOne K (.ref (X.at i)) (.ref C) = some b) (hd : XdAt H d) (q : Q (.bl b) H) : rIsA K a (.ref (X.at i)) d [.ref a, .ref C] H Q :=
  ⟨_, rfl, k.ec, .ref C, .ref C, b, rfl, fun _ e => e, h, hd, q⟩
theorem isA_ve {K : PySem.W.Frag} {X : Exs} {i : Nat} {a : Addr} {d : Option Addr} {H : Hp} {Q : VK} (k : KndD K X i) (hd : XdAt H d) (q : Q (.bl true) H) : rIsA K a (.ref (X.at i)) d [.ref a, .ty "ValueError"] H Q :=
  ⟨_, rfl, k.ec, .ty "ValueError", .type "ValueError", true, rfl, fun _ e => e, k.ve, hd, q⟩
section
variable {X : Cx} {Z : Exs}
theorem kind_gives {g : Addr} {cdg : Value} {q : Str} (n_isinstance : X.mg "isinstance" = none) (n_ValueError : X.mg "ValueError" = none) (hm : X.mg "KinError" = some (.ref Z.kin))
    (c_BadParts : GlV X.mg "BadParts" (.ref Z.parts)) (c_BadPart : GlV X.mg "BadPart" (.ref Z.part)) (c_BadCount : GlV X.mg "BadCount" (.ref Z.count)) (c_Lacks : GlV X.mg "Lacks" (.ref Z.lacks)) (c_BadPiece : GlV X.mg "BadPiece" (.ref Z.piece)) (c_BadLot : GlV X.mg "BadLot" (.ref Z.lot)) (c_BadText : GlV X.mg "BadText" (.ref Z.text)) (hu : X.A.units + 70 < cLine) :
    LamX.GivesTo X ["_law_call", "e", "_law_kinds"] "_law_kind" (defScope s__law_kind) g cdg (defBody s__law_kind) "_law_call" q (TTkind X.K Z) := by
  intro f c' s H Q tl act hc hw
  refine ⟨_, pss_cons (ps_try_as (X := (cxOf C8.CX0 X.prog X.w X.K X.mg X.base ["_law_call", "e", "_law_kinds"] "_law_kind" (defScope s__law_kind) g cdg X.A X.stack s H C8.E0).nox) (i := 1) (c := .ref Z.kin)
      (tb := fun W D σ H => ∃ Ech : XK, (∀ cls d σ' H', σ'.length = 3 → Ech cls d H' → W cls d σ' H') ∧ σ[0]? = some (some (.ref f)) ∧ H c' = some (LamX.CodeO c' q) ∧ tl Ech H (fun _ H' => D.nx σ H'))
      rfl rfl sc__law_kind.nd rfl rfl ⟨by rfl, by decide +kernel, .inl hm⟩ L2.takes0 (fun W pn xe tk _ => ?_) (fun a oe cls d pn hz hf => (pss_cons (ps_asg (pe_lst (pa_cons (pe_callB (call_isA hz hf) rfl n_isinstance b_isinstance (pa_cons (pv 1) (pa_cons (pe_gv c_BadParts rfl) pa_nil))) (pa_cons (pe_callB (call_isA hz hf) rfl n_isinstance b_isinstance (pa_cons (pv 1) (pa_cons (pe_gv c_BadPart rfl) pa_nil))) (pa_cons (pe_callB (call_isA hz hf) rfl n_isinstance b_isinstance (pa_cons (pv 1) (pa_cons (pe_gv c_BadCount rfl) pa_nil))) (pa_cons (pe_callB (call_isA hz hf) rfl n_isinstance b_isinstance (pa_cons (pv 1) (pa_cons (pe_gv c_Lacks rfl) pa_nil))) pa_nil))))) (pg_name (i := 2) sc__law_kind.nd rfl (by first | exact Or.inl rfl | exact Or.inr rfl))) (pss_cons (ps_expr (pe_bmU X.K PySem.F.plainAttrs_list PySem.F.slot_list_extend PySem.F.type_list_extend mt_extend (pv 2) (pa_cons (pe_lst (pa_cons (pe_callB (call_isA hz hf) rfl n_isinstance b_isinstance (pa_cons (pv 1) (pa_cons (pe_gv c_BadPiece rfl) pa_nil))) (pa_cons (pe_callB (call_isA hz hf) rfl n_isinstance b_isinstance (pa_cons (pv 1) (pa_cons (pe_gv c_BadLot rfl) pa_nil))) (pa_cons (pe_callB (call_isA hz hf) rfl n_isinstance b_isinstance (pa_cons (pv 1) (pa_cons (pe_gv c_BadText rfl) pa_nil))) pa_nil)))) pa_nil))) (pss_cons (ps_if (PW.pt (pw_or (pt_cmpR op_ne (pe_bmU X.K PySem.F.plainAttrs_list PySem.F.slot_list_count PySem.F.type_list_count (mt_countK X.K (by show X.A.units + 3 + 64 < cLine; omega)) (pv 2) (pa_cons pe_bl pa_nil)) pe_int (nomark _)) (pw_or1 (pt_not (pt_val (pe_callB (call_isA hz hf) rfl n_isinstance b_isinstance (pa_cons (pv 1) (pa_cons (pe_bt n_ValueError b_ValueError rfl) pa_nil)))))))) (pss_one (ps_ret (pe_tup (pa_cons pe_str (pa_cons pe_int pa_nil))))) pss_nil) (pss_cons (ps_if (pt_val (pe_ix (ix_listK X.K) (pv 2) pe_int (fun _ _ => rfl))) (pss_one (ps_ret (pe_tup (pa_cons pe_str (pa_cons (pe_xfA hz hf (pv 1) rfl) pa_nil))))) pss_nil) (pss_cons (ps_if (PW.pt (pw_or (pt_val (pe_ix (ix_listK X.K) (pv 2) pe_int (fun _ _ => rfl))) (pw_or1 (pt_val (pe_ix (ix_listK X.K) (pv 2) pe_int (fun _ _ => rfl)))))) (pss_one (ps_ret (pe_tup (pa_cons (pe_ifExp (pt_val (pe_ix (ix_listK X.K) (pv 2) pe_int (fun _ _ => rfl))) pe_str pe_str) (pa_cons (pe_xfA hz hf (pv 1) rfl) pa_nil))))) pss_nil) (pss_cons (ps_if (pt_val (pe_ix (ix_listK X.K) (pv 2) pe_int (fun _ _ => rfl))) (pss_one (ps_ret (pe_tup (pa_cons pe_str (pa_cons (pe_xfA hz hf (pv 1) rfl) pa_nil))))) pss_nil) (pss_one (ps_ret (pe_ifExp (pt_val (pe_ix (ix_listK X.K) (pv 2) pe_int (fun _ _ => rfl))) (pe_tup (pa_cons pe_str (pa_cons (pe_xfA hz hf (pv 1) rfl) pa_nil))) (pe_tup (pa_cons (pe_ifExp (pt_val (pe_ix (ix_listK X.K) (pv 2) pe_int (fun _ _ => rfl))) pe_str pe_str) (pa_cons pe_int pa_nil)))))))))))))) (pss_one (ps_ret (pe_tup (pa_cons pe_str (pa_cons pe_int pa_nil))))), ?_⟩
  · refine ⟨fun pins s' σ H' D I hx => ?_⟩
    obtain ⟨Ech, hW, h1, h2, h3⟩ := hx
    exact (pss_one (ps_expr (act _ pn xe Ech _ _ (takes_len tk) fun cls d σ' H' he hl => hW cls d σ' H' hl he))).run pins s' σ H' D I ⟨h1, h2, h3⟩
  · refine ⟨_, fun cls d σ' H' hl hx => ?_, rfl, hc, hw⟩
    obtain ⟨r, hk, hrz, kk⟩ := hx
    obtain ⟨v0, v1, v2, rfl⟩ : ∃ v0 v1 v2, σ' = [v0, v1, v2] := by
      match σ', hl with
      | [v0, v1, v2], _ => exact ⟨v0, v1, v2, rfl⟩
    obtain ⟨i, k, hi, rfl, hd⟩ : ∃ i, KndD X.K Z i ∧ rfIx r = i ∧ cls = .ref (Z.at i) ∧ XdAt H' d := by
      cases r with
      | part z => obtain ⟨h1, h2⟩ := hrz; obtain ⟨a, rfl, h3⟩ := h2; exact ⟨1, hk.d, rfl, h1, _, h3⟩
      | count => obtain ⟨h1, h2⟩ := hrz; subst h2; exact ⟨2, hk, rfl, h1, trivial⟩
      | lacks z => obtain ⟨h1, h2⟩ := hrz; obtain ⟨a, rfl, h3⟩ := h2; exact ⟨3, hk.d, rfl, h1, _, h3⟩
      | piece z => obtain ⟨h1, h2⟩ := hrz; obtain ⟨a, rfl, h3⟩ := h2; exact ⟨4, hk.d, rfl, h1, _, h3⟩
      | lot => obtain ⟨h1, h2⟩ := hrz; subst h2; exact ⟨5, hk, rfl, h1, trivial⟩
      | parts z => obtain ⟨h1, h2⟩ := hrz; obtain ⟨a, rfl, h3⟩ := h2; exact ⟨0, hk.d, rfl, h1, _, h3⟩
      | text z => obtain ⟨h1, h2⟩ := hrz; obtain ⟨a, rfl, h3⟩ := h2; exact ⟨6, hk.d, rfl, h1, _, h3⟩
    refine ⟨true, k.ex, fun _ a ha => ?_, fun z => by cases z⟩
    repeat tb_start
    refine isA_go k k.i0 hd ?_
    repeat tb_start
    refine isA_go k k.i1 hd ?_
    repeat tb_start
    refine isA_go k k.i2 hd ?_
    repeat tb_start
    refine isA_go k k.i3 hd ?_
    repeat tb_start
    have S0 : Ok ⟨H', H', []⟩ H' [] H' := Ok.start0 (Ex.refl H')
    refine new_lst S0 (by show 4 ≤ sizeLine; decide) fun p H1 S1 => ?_
    have hd1 : XdAt H1 d := hd.up S1.ex
    repeat tb_start
    refine isA_go k k.i4 hd1 ?_
    repeat tb_start
    refine isA_go k k.i5 hd1 ?_
    repeat tb_start
    refine isA_go k k.i6 hd1 ?_
    repeat tb_start
    refine new_lst S1 (by show 3 ≤ sizeLine; decide) fun p2 H2 S2 => ?_
    refine ⟨p, p2, _, _, rfl, rfl, (S2.own _ (.tail _ (.head _))).1, (S2.own _ (.head _)).1, by show 7 ≤ sizeLine; decide, ?_⟩
    have S3 := S2.mutN (o' := .lst ([.bl (decide (i = 0)), .bl (decide (i = 1)), .bl (decide (i = 2)), .bl (decide (i = 3)), .bl (decide (i = 4)), .bl (decide (i = 5)), .bl (decide (i = 6))] : List V)) 1 rfl
    replace S3 : Ok ⟨H', H', []⟩ H' [(p2, .lst [.bl (decide (i = 4)), .bl (decide (i = 5)), .bl (decide (i = 6))]), (p, .lst [.bl (decide (i = 0)), .bl (decide (i = 1)), .bl (decide (i = 2)), .bl (decide (i = 3)), .bl (decide (i = 4)), .bl (decide (i = 5)), .bl (decide (i = 6))])] _ := S3
    have hp3 := (S3.own _ (.tail _ (.head _))).1
    have hd3 : XdAt _ d := hd.up S3.ex
    repeat tb_start
    refine bmL (.inl (.inl hp3)) ?_
    repeat tb_start
    refine ⟨p, _, [.bool (decide (i = 0)), .bool (decide (i = 1)), .bool (decide (i = 2)), .bool (decide (i = 3)), .bool (decide (i = 4)), .bool (decide (i = 5)), .bool (decide (i = 6))], .bl true, .bool true, rfl, rfl, .inl (.inl hp3), .cons (.bl _) (.cons (.bl _) (.cons (.bl _) (.cons (.bl _) (.cons (.bl _) (.cons (.bl _) (.cons (.bl _) (.nil))))))), .bl true, rfl, rfl, by decide, ?_⟩
    repeat tb_start
    refine ⟨rfl, ?_⟩
    cases r with
    | part z =>
      obtain rfl : i = 1 := hi.symm
      obtain ⟨_, dd, rfl, h3⟩ := hrz
      have hdd := S3.ex _ _ h3
      refine r_bl ?_
      refine if_c0 (by decide) ?_
      repeat tb_start
      refine isA_ve k hd3 ?_
      repeat tb_start
      refine ⟨p, _, 0, .bl false, rfl, rfl, .inl (.inl hp3), rfl, ?_⟩
      repeat tb_start
      refine ⟨p, _, 1, .bl true, rfl, rfl, .inl (.inl hp3), rfl, ?_⟩
      repeat tb_start
      refine ⟨p, _, 1, .bl true, rfl, rfl, .inl (.inl hp3), rfl, ?_⟩
      repeat tb_start
      refine ⟨Z.at 1, hk.x, hk.n, ⟨_, rfl, rfl, rfl, dd, _, _, rfl, hdd, rfl, ?_⟩⟩
      repeat tb_start
      exact ⟨by show 2 ≤ sizeLine; decide, fun t ht => kk t _ (S3.ex.trans (Ex.new ht)) (S3.fresh ht).1 upd_same⟩
    | count =>
      obtain rfl : i = 2 := hi.symm
      refine r_bl ?_
      refine if_c0 (by decide) ?_
      repeat tb_start
      refine isA_ve k hd3 ?_
      repeat tb_start
      refine ⟨p, _, 0, .bl false, rfl, rfl, .inl (.inl hp3), rfl, ?_⟩
      repeat tb_start
      refine ⟨p, _, 1, .bl false, rfl, rfl, .inl (.inl hp3), rfl, ?_⟩
      repeat tb_start
      refine ⟨p, _, 3, .bl false, rfl, rfl, .inl (.inl hp3), rfl, ?_⟩
      repeat tb_start
      refine ⟨p, _, 4, .bl false, rfl, rfl, .inl (.inl hp3), rfl, ?_⟩
      repeat tb_start
      refine ⟨p, _, 6, .bl false, rfl, rfl, .inl (.inl hp3), rfl, ?_⟩
      repeat tb_start
      refine ⟨p, _, 2, .bl true, rfl, rfl, .inl (.inl hp3), rfl, ?_⟩
      repeat tb_start
      exact ⟨by show 2 ≤ sizeLine; decide, fun t ht => kk t _ (S3.ex.trans (Ex.new ht)) (S3.fresh ht).1 upd_same⟩
    | lacks z =>
      obtain rfl : i = 3 := hi.symm
      obtain ⟨_, dd, rfl, h3⟩ := hrz
      have hdd := S3.ex _ _ h3
      refine r_bl ?_
      refine if_c0 (by decide) ?_
      repeat tb_start
      refine isA_ve k hd3 ?_
      repeat tb_start
      refine ⟨p, _, 0, .bl false, rfl, rfl, .inl (.inl hp3), rfl, ?_⟩
      repeat tb_start
      refine ⟨p, _, 1, .bl false, rfl, rfl, .inl (.inl hp3), rfl, ?_⟩
      repeat tb_start
      refine ⟨p, _, 3, .bl true, rfl, rfl, .inl (.inl hp3), rfl, ?_⟩
      repeat tb_start
      refine ⟨p, _, 1, .bl false, rfl, rfl, .inl (.inl hp3), rfl, ?_⟩
      repeat tb_start
      refine ⟨Z.at 3, hk.x, hk.n, ⟨_, rfl, rfl, rfl, dd, _, _, rfl, hdd, rfl, ?_⟩⟩
      repeat tb_start
      exact ⟨by show 2 ≤ sizeLine; decide, fun t ht => kk t _ (S3.ex.trans (Ex.new ht)) (S3.fresh ht).1 upd_same⟩
    | piece z =>
      obtain rfl : i = 4 := hi.symm
      obtain ⟨_, dd, rfl, h3⟩ := hrz
      have hdd := S3.ex _ _ h3
      refine r_bl ?_
      refine if_c0 (by decide) ?_
      repeat tb_start
      refine isA_ve k hd3 ?_
      repeat tb_start
      refine ⟨p, _, 0, .bl false, rfl, rfl, .inl (.inl hp3), rfl, ?_⟩
      repeat tb_start
      refine ⟨p, _, 1, .bl false, rfl, rfl, .inl (.inl hp3), rfl, ?_⟩
      repeat tb_start
      refine ⟨p, _, 3, .bl false, rfl, rfl, .inl (.inl hp3), rfl, ?_⟩
      repeat tb_start
      refine ⟨p, _, 4, .bl true, rfl, rfl, .inl (.inl hp3), rfl, ?_⟩
      repeat tb_start
      refine ⟨Z.at 4, hk.x, hk.n, ⟨_, rfl, rfl, rfl, dd, _, _, rfl, hdd, rfl, ?_⟩⟩
      repeat tb_start
      exact ⟨by show 2 ≤ sizeLine; decide, fun t ht => kk t _ (S3.ex.trans (Ex.new ht)) (S3.fresh ht).1 upd_same⟩
    | lot =>
      obtain rfl : i = 5 := hi.symm
      refine r_bl ?_
      refine if_c0 (by decide) ?_
      repeat tb_start
      refine isA_ve k hd3 ?_
      repeat tb_start
      refine ⟨p, _, 0, .bl false, rfl, rfl, .inl (.inl hp3), rfl, ?_⟩
      repeat tb_start
      refine ⟨p, _, 1, .bl false, rfl, rfl, .inl (.inl hp3), rfl, ?_⟩
      repeat tb_start
      refine ⟨p, _, 3, .bl false, rfl, rfl, .inl (.inl hp3), rfl, ?_⟩
      repeat tb_start
      refine ⟨p, _, 4, .bl false, rfl, rfl, .inl (.inl hp3), rfl, ?_⟩
      repeat tb_start
      refine ⟨p, _, 6, .bl false, rfl, rfl, .inl (.inl hp3), rfl, ?_⟩
      repeat tb_start
      refine ⟨p, _, 2, .bl false, rfl, rfl, .inl (.inl hp3), rfl, ?_⟩
      repeat tb_start
      exact ⟨by show 2 ≤ sizeLine; decide, fun t ht => kk t _ (S3.ex.trans (Ex.new ht)) (S3.fresh ht).1 upd_same⟩
    | parts z =>
      obtain rfl : i = 0 := hi.symm
      obtain ⟨_, dd, rfl, h3⟩ := hrz
      have hdd := S3.ex _ _ h3
      refine r_bl ?_
      refine if_c0 (by decide) ?_
      repeat tb_start
      refine isA_ve k hd3 ?_
      repeat tb_start
      refine ⟨p, _, 0, .bl true, rfl, rfl, .inl (.inl hp3), rfl, ?_⟩
      repeat tb_start
      refine ⟨Z.at 0, hk.x, hk.n, ⟨_, rfl, rfl, rfl, dd, _, _, rfl, hdd, rfl, ?_⟩⟩
      repeat tb_start
      exact ⟨by show 2 ≤ sizeLine; decide, fun t ht => kk t _ (S3.ex.trans (Ex.new ht)) (S3.fresh ht).1 upd_same⟩
    | text z =>
      obtain rfl : i = 6 := hi.symm
      obtain ⟨_, dd, rfl, h3⟩ := hrz
      have hdd := S3.ex _ _ h3
      refine r_bl ?_
      refine if_c0 (by decide) ?_
      repeat tb_start
      refine isA_ve k hd3 ?_
      repeat tb_start
      refine ⟨p, _, 0, .bl false, rfl, rfl, .inl (.inl hp3), rfl, ?_⟩
      repeat tb_start
      refine ⟨p, _, 1, .bl false, rfl, rfl, .inl (.inl hp3), rfl, ?_⟩
      repeat tb_start
      refine ⟨p, _, 3, .bl false, rfl, rfl, .inl (.inl hp3), rfl, ?_⟩
      repeat tb_start
      refine ⟨p, _, 4, .bl false, rfl, rfl, .inl (.inl hp3), rfl, ?_⟩
      repeat tb_start
      refine ⟨p, _, 6, .bl true, rfl, rfl, .inl (.inl hp3), rfl, ?_⟩
      repeat tb_start
      refine ⟨Z.at 6, hk.x, hk.n, ⟨_, rfl, rfl, rfl, dd, _, _, rfl, hdd, rfl, ?_⟩⟩
      repeat tb_start
      exact ⟨by show 2 ≤ sizeLine; decide, fun t ht => kk t _ (S3.ex.trans (Ex.new ht)) (S3.fresh ht).1 upd_same⟩
/-- _law_kind as it stands behind the top -/
structure KindG (K : PySem.W.Frag) (mg : Str → Option Value) (Z : Exs) : Prop where
  fn : ∃ g fd, Fun K "_law_kind" "_law_kind" s__law_kind g fd ∧ mg "_law_kind" = some (.ref g) ∧ Binds K fd ["_law_call"] []
  n1 : mg "isinstance" = none
  n2 : mg "ValueError" = none
  kin : mg "KinError" = some (.ref Z.kin)
  g0 : GlV mg "BadParts" (.ref Z.parts)
  g1 : GlV mg "BadPart" (.ref Z.part)
  g2 : GlV mg "BadCount" (.ref Z.count)
  g3 : GlV mg "Lacks" (.ref Z.lacks)
  g4 : GlV mg "BadPiece" (.ref Z.piece)
  g5 : GlV mg "BadLot" (.ref Z.lot)
  g6 : GlV mg "BadText" (.ref Z.text)
theorem pe_kind {c PT : Addr} {q : Str} {k : Nat} {params : Arguments} {body : Expr} {scope : Scope} {t : XK → TE} {p lpos pos : Pos} (K : PySem.W.Frag) (G : KindG X.K X.mg Z) (TB : LamX.TabB X.base X.mg c PT) (hcode : X.env.code = .ref c) (hq : X.env.qual ++ "<lambda>" = q) (hr : Room (k + 2) X.A)
    (hg : Gl X "_law_kind") (L : LamX.LamS X.env.scope scope) (hdef : defaultsOf params X.env = ([], []))
    (hbind : ∀ (q : Str) (cl : List (Str × Addr)) (pm cv ctv : Value), bindArgs (PySem.W.kla_fn "<lambda>" q params body scope cl pm cv ctv) ⟨[], []⟩ = pure [])
    (hbody : ∀ (A : Around) (outer : List Env) (s : Shared) (H : Hp) (E : XK) (f c' : Addr), Room k (A.deeper (LamX.lamEnv X scope s.heap.objs.size f c')) → PE (LamX.lamCx X A outer s H E scope f c') body (t E)) (hK : X.K = K := by rfl) :
    PE X (.Call (.Name "_law_kind" p) [.Lambda params body scope lpos] [] pos) (tLamK PT q (TTkind K Z) t) := by
  subst hK
  obtain ⟨g, fd, F, hm, hb⟩ := G.fn
  obtain ⟨oc, od, kV, doc, pm, an, cdv, ct, osl, rfl, lk, hcd⟩ := F.ex
  exact pe_lamK hm F.kp lk hcd hb TB hcode hq hr (kind_gives G.n1 G.n2 G.kin G.g0 G.g1 G.g2 G.g3 G.g4 G.g5 G.g6 (by have := hr.un; omega)) hg sc__law_kind rfl (.inl rfl) L hdef hbind hbody
end
end LW

namespace LW
open PySem PySem.Spec PyProof.Rows L2 WK PM
section
variable {X : Cx} {Z : Exs}
end
end LW
namespace LW
open PySem PySem.Spec PyProof.Rows L2 WK PM
/-- what is told of a refusal, as data -/
def rfDs : Rf → List PyData
  | .part z => [.str "part", .str z]
  | .count => [.str "count", .int 0]
  | .lacks z => [.str "lacks", .str z]
  | .piece z => [.str "piece", .str z]
  | .lot => [.str "lot", .int 0]
  | .parts i => [.str "parts", .int i]
  | .text i => [.str "text", .int i]
theorem dp_rf {K : PySem.W.Frag} {B : Hp} {t : Addr} {r : Rf} (h : B t = some (.tup (rfV r))) : Dp K B (.ref t) (.tuple (rfDs r)) := by
  refine Dp.ofTup h ?_
  cases r <;> exact .cons (.str _) (.cons (by first | exact .str _ | exact .int _) .nil)
theorem Rz.ex {X : Exs} {B H : Hp} {r : Rf} {c : Value} {d : Option Addr} (h : Rz X B r c d) (e : Ex B H) : Rz X H r c d := by
  cases r with
  | count => exact h
  | lot => exact h
  | part z => obtain ⟨h1, a, h2, h3⟩ := h; exact ⟨h1, a, h2, e _ _ h3⟩
  | lacks z => obtain ⟨h1, a, h2, h3⟩ := h; exact ⟨h1, a, h2, e _ _ h3⟩
  | piece z => obtain ⟨h1, a, h2, h3⟩ := h; exact ⟨h1, a, h2, e _ _ h3⟩
  | parts z => obtain ⟨h1, a, h2, h3⟩ := h; exact ⟨h1, a, h2, e _ _ h3⟩
  | text z => obtain ⟨h1, a, h2, h3⟩ := h; exact ⟨h1, a, h2, e _ _ h3⟩
end LW

namespace LW
open PySem PySem.Spec PyProof.Rows L2 WK PM
def sansT (H : Hp) (PT : Addr) : Hp := fun b => if b = PT then none else H b
theorem Ok.startT {H : Hp} {PT : Addr} (h : H PT = some (.tbl #[])) : Ok ⟨sansT H PT, H, [PT]⟩ (sansT H PT) [(PT, .tbl #[])] H :=
  Ok.start (L := [(PT, .tbl #[])]) (fun a o z => by
    unfold sansT at z
    split at z
    · cases z
    · exact z) (List.nodup_cons.mpr ⟨(fun z => nomatch z), List.nodup_nil⟩) fun p hp => by
    rw [List.mem_singleton.mp hp]
    exact ⟨h, if_pos rfl⟩
theorem sansT_sq {K : PySem.W.Frag} {H : Hp} {PT a : Addr} {xs : List V} (h : H PT = some (.tbl #[])) (hq : SqL K H a xs) : SqL K (sansT H PT) a xs := by
  have ne : ∀ {o : HO}, H a = some o → o ≠ .tbl #[] → a ≠ PT := fun {o} e n z => by
    rw [z, h] at e
    exact n (Option.some.inj e).symm
  rcases hq with (hq | ⟨o, hq⟩) | hq
  · exact .inl (.inl ((if_neg (ne hq (fun z => by cases z))).trans hq))
  · exact .inl (.inr ⟨o, (if_neg (ne hq (fun z => by cases z))).trans hq⟩)
  · exact .inr hq
def sansT2 (H : Hp) (PT PL : Addr) : Hp := fun b => if b = PT then none else if b = PL then none else H b
end LW

namespace LW
open PySem PySem.Spec PyProof.Rows L2 WK PM
/-- a floor at hand, in what is one's own -/
structure Flo (K : PySem.W.Frag) (CP CF CL CI : Addr) (F : Ent) (B : Hp) (f : Addr) (A : AFl) (R : Led) (H : Hp) : Prop where
  S : Ok F B (FL CF CL CI A ++ R) H
  fb : FB K CP B A
  inv : FlOk A.st
  hf : A.f = f
section
variable {K : PySem.W.Frag} {CP CF CL CI : Addr} {F : Ent} {B H : Hp} {f : Addr} {A : AFl} {R : Led} {Q : VK} {E : XK}
theorem Flo.hx (Z : Flo K CP CF CL CI F B f A R H) : H f = some (.ins CF A.dx (flF A)) := Z.hf ▸ Z.S.mem mF
theorem Flo.fs (Z : Flo K CP CF CL CI F B f A R H) (few : A.book.length < 10000) : FS K CP CF CL CI B H A := ⟨Z.S.sub, Z.fb, few⟩
theorem Flo.npc (Z : Flo K CP CF CL CI F B f A R H) : A.pcs.length ≤ A.book.length ∧ A.lots.length ≤ A.book.length := by
  have := Z.fb.few
  omega
theorem Flo.re {R' : Led} {B' H' : Hp} {F' : Ent} (Z : Flo K CP CF CL CI F B f A R H) (S : Ok F' B' (FL CF CL CI A ++ R') H') (e : Ex B B') : Flo K CP CF CL CI F' B' f A R' H' := ⟨S, Z.fb.up e, Z.inv, Z.hf⟩
theorem Flo.len (A : AFl) : A.st.pcs.length = A.pcs.length ∧ A.st.lots.length = A.lots.length := ⟨List.length_map _, List.length_map _⟩
/-- behind a deed -/
theorem Flo.did (Z : Flo K CP CF CL CI F B f A R H) {d : Deed} {st' : Fl} (hmd : (A.st.mDone d).2 = st') {P : Hp → Prop} (kk : ∀ A' B' H', Ex B B' → Flo K CP CF CL CI F B' f A' R H' → A'.st = (A.st.mDone d).2 → P H') : DoneQ K CP CF CL CI B H A st' P := by
  intro A' B' H' e T fb hst hf
  have hst2 : A'.st = (A.st.mDone d).2 := hst.trans hmd.symm
  exact kk A' B' H' e ⟨Z.S.call T, fb, by rw [hst2]; exact Z.inv.mDone d, hf.trans Z.hf⟩ hst2
theorem Flo.buy {z : Str} {m pr : Int} (Z : Flo K CP CF CL CI F B f A R H) (few : A.book.length < 10000) (ht : (A.st.mDone (.buy z m pr)).1.isTold = true)
    (kk : ∀ A' B' H', Ex B B' → Flo K CP CF CL CI F B' f A' R H' → A'.st = (A.st.mDone (.buy z m pr)).2 → Q (.int (A.lots.length : Int)) H') : spBuy K CP CF CL CI [.ref f, .str z, .int m, .int pr] H Q E := by
  obtain ⟨hb, hm, hp, hmd⟩ := buy_told ht
  obtain ⟨r, hr, hn, hs⟩ := bought_row hb
  exact ⟨B, A, z, r, m, pr, by rw [Z.hf], Z.fs few, hr, hn, hs, hm.1, hm.2, hp.1, hp.2, Z.did (by rw [hmd]) kk⟩
theorem Flo.begin_ {z : Str} (Z : Flo K CP CF CL CI F B f A R H) (few : A.book.length < 10000) (ht : (A.st.mDone (.begin_ z)).1.isTold = true)
    (kk : ∀ A' B' H', Ex B B' → Flo K CP CF CL CI F B' f A' R H' → A'.st = (A.st.mDone (.begin_ z)).2 → Q (.int (A.pcs.length : Int)) H') : spBegin K CP CF CL CI [.ref f, .str z] H Q E := by
  obtain ⟨r, hr, hb, hlk, hmd⟩ := begin_told ht
  obtain ⟨inv', P0⟩ := Z.inv.begin_ hr hb hlk
  exact ⟨B, A, z, r, A.st.takes r.needs, by rw [Z.hf], Z.fs few, hr, hb, List.length_map _, takes_at hlk, giveOk_of P0, Z.did (by rw [hmd]) kk⟩
theorem Flo.work {k : Nat} (Z : Flo K CP CF CL CI F B f A R H) (few : A.book.length < 10000) (ht : (A.st.mDone (.work k)).1.isTold = true)
    (kk : ∀ (mi : Int) A' B' H', Ex B B' → Flo K CP CF CL CI F B' f A' R H' → A'.st = (A.st.mDone (.work k)).2 → (A.st.mDone (.work k)).1 = .told (.int mi) → Q (.int mi) H') : spWork K CP CF CL CI [.ref f, .int (k : Int)] H Q E := by
  obtain ⟨pp, hk0, hpk, hps, hmd0, htold⟩ := onPc_told (show (A.st.onPc k ["making"] fun p => A.st.pDone (k : Int).toNat p (.work k)).1.isTold = true from ht)
  rw [Int.toNat_natCast] at hpk htold hmd0
  obtain ⟨Pc, hP, rfl⟩ := at_pc hpk
  have hmd1 : A.st.mDone (.work k) = A.st.pDone k Pc.s (.work k) := hmd0
  have hst := in1 hps
  obtain ⟨r, j, mc, mi, rate, s1, s2, s3, s4, s5, s6, s7, s8, _⟩ := Z.inv.step hpk hst
  have hmd : A.st.mDone (.work k) = (.told (.int mi), A.st.work k Pc.s (mi * rate) r.steps.length) := by
    rw [hmd1]
    show (Ans.told (.int (A.st.stepAt Pc.s).2), A.st.work k Pc.s ((A.st.stepAt Pc.s).2 * A.st.rateOf (A.st.stepAt Pc.s).1) (A.st.nSteps Pc.s)) = _
    rw [s5, s7]
    dsimp only
    rw [s6]
  exact ⟨B, A, k, Pc, r, j, mc, mi, rate, by rw [Z.hf], Z.fs few, hP, hst, s1, s2, s3, s4, Z.did (by rw [hmd]) fun A' B' H' e z h => kk mi A' B' H' e z h (by rw [hmd])⟩
theorem Flo.test {k : Nat} {g : Bool} (Z : Flo K CP CF CL CI F B f A R H) (few : A.book.length < 10000) (ht : (A.st.mDone (.test k g)).1.isTold = true)
    (kk : ∀ A' B' H', Ex B B' → Flo K CP CF CL CI F B' f A' R H' → A'.st = (A.st.mDone (.test k g)).2 → Q .non H') : spTest K CP CF CL CI [.ref f, .int (k : Int), .bl g] H Q E := by
  obtain ⟨pp, hk0, hpk, hps, hmd0, htold⟩ := onPc_told (show (A.st.onPc k ["made", "stock"] fun p => A.st.pDone (k : Int).toNat p (.test k g)).1.isTold = true from ht)
  rw [Int.toNat_natCast] at hpk htold hmd0
  obtain ⟨Pc, hP, rfl⟩ := at_pc hpk
  have hmd : A.st.mDone (.test k g) = (.told .none, A.st.put k { Pc.s with state := if g = true then "stock" else "bad" } (.test k g)) := hmd0
  exact ⟨B, A, k, Pc, g, by rw [Z.hf], Z.fs few, hP, in2 hps, Z.did (by rw [hmd]) kk⟩
theorem Flo.rework {k : Nat} {a : Int} (Z : Flo K CP CF CL CI F B f A R H) (few : A.book.length < 10000) (ht : (A.st.mDone (.rework k a)).1.isTold = true)
    (kk : ∀ A' B' H', Ex B B' → Flo K CP CF CL CI F B' f A' R H' → A'.st = (A.st.mDone (.rework k a)).2 → Q .non H') : spRework K CP CF CL CI [.ref f, .int (k : Int), .int a] H Q E := by
  obtain ⟨pp, hk0, hpk, hps, hmd0, htold⟩ := onPc_told (show (A.st.onPc k ["bad"] fun p => A.st.pDone (k : Int).toNat p (.rework k a)).1.isTold = true from ht)
  rw [Int.toNat_natCast] at hpk htold hmd0
  obtain ⟨Pc, hP, rfl⟩ := at_pc hpk
  have hmd1 : A.st.mDone (.rework k a) = A.st.pDone k Pc.s (.rework k a) := hmd0
  obtain ⟨r, r1, r2, r3, r4, r5⟩ := Z.inv.i.nSteps hpk
  have hc : 0 ≤ a ∧ a < A.st.nSteps Pc.s := by
    by_cases h : 0 ≤ a ∧ a < A.st.nSteps Pc.s
    · exact h
    · have : A.st.pDone k Pc.s (.rework k a) = (.count, A.st) := if_neg h
      rw [this] at htold
      cases htold
  have hmd : A.st.mDone (.rework k a) = (.told .none, A.st.put k { Pc.s with state := "making", at_ := a } (.rework k a)) := hmd1.trans (if_pos hc)
  exact ⟨B, A, k, Pc, r, a, by rw [Z.hf], Z.fs few, hP, in1 hps, r1, hc.1, by rw [← r2]; exact hc.2, Z.did (by rw [hmd]) kk⟩
theorem Flo.scrap {k : Nat} (Z : Flo K CP CF CL CI F B f A R H) (few : A.book.length < 10000) (ht : (A.st.mDone (.scrap k)).1.isTold = true)
    (kk : ∀ A' B' H', Ex B B' → Flo K CP CF CL CI F B' f A' R H' → A'.st = (A.st.mDone (.scrap k)).2 → Q .non H') : spScrap K CP CF CL CI [.ref f, .int (k : Int)] H Q E := by
  obtain ⟨pp, hk0, hpk, hps, hmd0, htold⟩ := onPc_told (show (A.st.onPc k ["making", "made", "bad", "stock"] fun p => A.st.pDone (k : Int).toNat p (.scrap k)).1.isTold = true from ht)
  rw [Int.toNat_natCast] at hpk htold hmd0
  obtain ⟨Pc, hP, rfl⟩ := at_pc hpk
  have hmd : A.st.mDone (.scrap k) = (.told .none, A.st.put k { Pc.s with state := "scrap" } (.scrap k)) := hmd0
  exact ⟨B, A, k, Pc, by rw [Z.hf], Z.fs few, hP, hps, Z.did (by rw [hmd]) kk⟩
theorem Flo.back {k : Nat} (Z : Flo K CP CF CL CI F B f A R H) (few : A.book.length < 10000) (ht : (A.st.mDone (.back k)).1.isTold = true)
    (kk : ∀ A' B' H', Ex B B' → Flo K CP CF CL CI F B' f A' R H' → A'.st = (A.st.mDone (.back k)).2 → Q .non H') : spBack K CP CF CL CI [.ref f, .int (k : Int)] H Q E := by
  obtain ⟨pp, hk0, hpk, hps, hmd0, htold⟩ := onPc_told (show (A.st.onPc k ["sold"] fun p => A.st.pDone (k : Int).toNat p (.back k)).1.isTold = true from ht)
  rw [Int.toNat_natCast] at hpk htold hmd0
  obtain ⟨Pc, hP, rfl⟩ := at_pc hpk
  have hmd : A.st.mDone (.back k) = (.told .none, A.st.put k { Pc.s with state := "made", client := none } (.back k)) := hmd0
  exact ⟨B, A, k, Pc, by rw [Z.hf], Z.fs few, hP, in1 hps, Z.did (by rw [hmd]) kk⟩
theorem Flo.sell {k : Nat} {c : Int} (Z : Flo K CP CF CL CI F B f A R H) (few : A.book.length < 10000) (ht : (A.st.mDone (.sell k c)).1.isTold = true)
    (kk : ∀ A' B' H', Ex B B' → Flo K CP CF CL CI F B' f A' R H' → A'.st = (A.st.mDone (.sell k c)).2 → Q .non H') : spSell K CP CF CL CI [.ref f, .int (k : Int), .int c] H Q E := by
  obtain ⟨pp, hk0, hpk, hps, hmd0, htold⟩ := onPc_told (show (A.st.onPc k ["stock"] fun p => A.st.pDone (k : Int).toNat p (.sell k c)).1.isTold = true from ht)
  rw [Int.toNat_natCast] at hpk htold hmd0
  obtain ⟨Pc, hP, rfl⟩ := at_pc hpk
  have hmd1 : A.st.mDone (.sell k c) = A.st.pDone k Pc.s (.sell k c) := hmd0
  have hc : 0 ≤ c ∧ c ≤ 99 := by
    by_cases h : 0 ≤ c ∧ c ≤ 99
    · exact h
    · have : A.st.pDone k Pc.s (.sell k c) = (.count, A.st) := if_neg h
      rw [this] at htold
      cases htold
  have hmd : A.st.mDone (.sell k c) = (.told .none, A.st.put k { Pc.s with state := "sold", client := some c } (.sell k c)) := hmd1.trans (if_pos hc)
  exact ⟨B, A, k, Pc, c, by rw [Z.hf], Z.fs few, hP, in1 hps, hc.1, hc.2, Z.did (by rw [hmd]) kk⟩
theorem Flo.swap {k o n : Nat} (Z : Flo K CP CF CL CI F B f A R H) (few : A.book.length < 10000) (ht : (A.st.mDone (.swap k o n)).1.isTold = true)
    (kk : ∀ A' B' H', Ex B B' → Flo K CP CF CL CI F B' f A' R H' → A'.st = (A.st.mDone (.swap k o n)).2 → Q .non H') : spSwap K CP CF CL CI [.ref f, .int (k : Int), .int (o : Int), .int (n : Int)] H Q E := by
  obtain ⟨pp, hk0, hpk, hps, hmd0, htold⟩ := onPc_told (show (A.st.onPc k ["bad"] fun p => A.st.pDone (k : Int).toNat p (.swap k o n)).1.isTold = true from ht)
  rw [Int.toNat_natCast] at hpk htold hmd0
  obtain ⟨Pc, hP, rfl⟩ := at_pc hpk
  have hmd1 : A.st.mDone (.swap k o n) = A.st.pDone k Pc.s (.swap k o n) := hmd0
  obtain ⟨oo, nn, q, r, e1, e2, ho, hq, hr, hrs, hpt, hmd2⟩ := swap_told htold
  obtain rfl : o = oo := Int.ofNat_inj.mp e1
  obtain rfl : n = nn := Int.ofNat_inj.mp e2
  have hst := in1 hps
  have O := Z.inv.i.pc k Pc.s hpk
  obtain ⟨q', hq', hqa⟩ := O.held o ho
  rw [hq] at hq'
  cases hq'
  have hqw := Z.inv.i.within hq hqa
  obtain ⟨Qc, hQ, rfl⟩ := at_pc hq
  obtain ⟨Rc, hR, rfl⟩ := at_pc hr
  have hko : k ≠ o := fun z => by subst z; rw [hpk] at hq; rw [← Option.some.inj hq, hst] at hqw; exact absurd hqw (by decide)
  have hkn : k ≠ n := fun z => by subst z; rw [hpk] at hr; rw [← Option.some.inj hr, hst] at hrs; exact absurd hrs (by decide)
  have hon : o ≠ n := fun z => by subst z; rw [hq] at hr; rw [← Option.some.inj hr, hqw] at hrs; exact absurd hrs (by decide)
  have hmd : A.st.mDone (.swap k o n) = (.told .none, A.st.swap k o n Pc.s Qc.s Rc.s) := hmd1.trans hmd2
  exact ⟨B, A, k, o, n, Pc, Qc, Rc, by rw [Z.hf], Z.fs few, hP, hQ, hR, hko, hkn, hon, hst, hrs, ho, hpt, Z.did (by rw [hmd]) kk⟩
theorem Flo.strip {k : Nat} (Z : Flo K CP CF CL CI F B f A R H) (few : A.book.length < 10000) (ht : (A.st.mDone (.strip k)).1.isTold = true)
    (kk : ∀ A' B' H', Ex B B' → Flo K CP CF CL CI F B' f A' R H' → A'.st = (A.st.mDone (.strip k)).2 → Q .non H') : spStrip K CP CF CL CI [.ref f, .int (k : Int)] H Q E := by
  obtain ⟨pp, hk0, hpk, hps, hmd0, htold⟩ := onPc_told (show (A.st.onPc k ["bad"] fun p => A.st.pDone (k : Int).toNat p (.strip k)).1.isTold = true from ht)
  rw [Int.toNat_natCast] at hpk htold hmd0
  obtain ⟨Pc, hP, rfl⟩ := at_pc hpk
  have hst := in1 hps
  have O := Z.inv.i.pc k Pc.s hpk
  have hll : A.st.lots.length = A.lots.length := List.length_map _
  have hpl : A.st.pcs.length = A.pcs.length := List.length_map _
  have hmd : A.st.mDone (.strip k) = (.told .none, A.st.strip k Pc.s) := hmd0
  refine ⟨B, A, k, Pc, by rw [Z.hf], Z.fs few, hP, hst, fun x hx => ?_, fun x hx => ?_, Z.did (by rw [hmd]) kk⟩
  · obtain ⟨h1, h2, h3⟩ := O.lots x hx
    exact ⟨by rw [← hll]; exact h1, by omega, by omega⟩
  · obtain ⟨q, hq, _⟩ := O.held x hx
    exact ⟨by rw [← hpl]; exact (List.getElem?_eq_some_iff.mp hq).1, fun z => Z.inv.i.nobody hpk (by rw [hst]; decide) hpk (z ▸ hx)⟩
/-! looks -/
theorem Flo.look (Z : Flo K CP CF CL CI F B f A R H) {P : Hp → Prop} (kk : ∀ B' H', Ex B B' → Flo K CP CF CL CI F B' f A R H' → P H') : LookQ K CF CL CI B H A P := fun B' H' e T => kk B' H' e (Z.re (Z.S.call T) e)
theorem Flo.state {k : Nat} {p : Pc} (Z : Flo K CP CF CL CI F B f A R H) (few : A.book.length ≤ 10000) (hp : A.st.pcs[k]? = some p) (kk : ∀ B' H', Ex B B' → Flo K CP CF CL CI F B' f A R H' → Q (.str p.state) H') : spStateOf K CP CF CL CI [.ref f, .int (k : Int)] H Q E := by
  obtain ⟨P, hP, rfl⟩ := at_pc hp
  have := Z.npc
  exact ⟨B, A, k, P, by rw [Z.hf], Z.S.sub, by omega, hP, (Z.inv.i.pc k _ hp).st, Z.look kk⟩
theorem Flo.cost {k : Nat} {p : Pc} (Z : Flo K CP CF CL CI F B f A R H) (few : A.book.length ≤ 10000) (hp : A.st.pcs[k]? = some p) (kk : ∀ B' H', Ex B B' → Flo K CP CF CL CI F B' f A R H' → Q (.int p.cost) H') : spCost K CF CL CI [.ref f, .int (k : Int)] H Q E := by
  obtain ⟨P, hP, rfl⟩ := at_pc hp
  have := Z.npc
  exact ⟨B, A, k, P, by rw [Z.hf], Z.S.sub, by omega, hP, (Z.inv.i.pc k _ hp).st, Z.look kk⟩
theorem Flo.hand {z : Str} {r : PRow} (Z : Flo K CP CF CL CI F B f A R H) (few : A.book.length < 10000) (hr : PM.rowOf A.st.rs z = some r) (kk : ∀ B' H', Ex B B' → Flo K CP CF CL CI F B' f A R H' → Q (.int (handOf A.st z)) H') : spAtHand K CP CF CL CI [.ref f, .str z] H Q E :=
  ⟨B, A, z, r, by rw [Z.hf], Z.fs few, hr, Z.look kk⟩
theorem Flo.paid (Z : Flo K CP CF CL CI F B f A R H) (kk : Q (.int A.st.spent) H) : spPaid CF [.ref f] H Q E := ⟨A, by rw [Z.hf], Z.S.mem mF, kk⟩
theorem Flo.places (Z : Flo K CP CF CL CI F B f A R H) (few : A.book.length ≤ 10000) (kk : ∀ (D : Addr) B' H', Ex B B' → Ok F B' ((D, .dK (kvI (placesOf A.st))) :: (FL CF CL CI A ++ R)) H' → Q (.ref D) H') : spPlaces K CP CF CL CI [.ref f] H Q E := by
  have := Z.fb.few
  exact ⟨B, A, by rw [Z.hf], Z.S.sub, by omega, Z.inv.i, fun D B' H' e T => kk D B' H' e (Z.S.call T)⟩
/-- a draw beside a floor -/
theorem Flo.next {p q : Addr} {m : Int} {cs : List Int} {kk many : Int} {Q : VK} (R1 R2 : Led) (Z : Flo K CP CF CL CI F B f A (R1 ++ (hL p q m cs kk ++ R2)) H) (hS : HS cs kk) (h0 : 0 < many) (h1 : many < 1073741824)
    (k : ∀ r m' cs' kk' H', 0 ≤ r → r < many → HS cs' kk' → Flo K CP CF CL CI F B f A (R1 ++ (hL p q m' cs' kk' ++ R2)) H' → Q (.int r) H') : spNext [.ref p, .int many] H Q E0 :=
  nextQ (FL CF CL CI A ++ R1) R2 (by rw [List.append_assoc]; exact Z.S) hS h0 h1 fun r m' cs' kk' H' r0 r1 hS' S' => k r m' cs' kk' H' r0 r1 hS' (Z.re (by rw [← List.append_assoc]; exact S') (Ex.refl _))
theorem told_book {A A' : AFl} {d : Deed} (ht : (A.st.mDone d).1.isTold = true) (h : A'.st = (A.st.mDone d).2) : A'.book.length = A.book.length + 1 := by
  have h1 : A'.book = A.book ++ [d] := (congrArg Fl.book h).trans ((mDone_note A.st d).1 ht)
  rw [h1, List.length_append]
  rfl
theorem Flo.rest (Z : Flo K CP CF CL CI F B f A R H) : Ok F B (R ++ FL CF CL CI A) H := Z.S.perm List.perm_append_comm
end
end LW

namespace LW
open PySem PySem.Spec PyProof.Rows L2 WK PM
/-! what is kept of a floor and compared later; refusals of kept lambdas -/
abbrev kR (kp D b c : Addr) (st : Fl) : Led := [(kp, .lst [.ref D, .ref b, .ref c]), (D, .dK (kvI (placesOf st)))]
theorem plc_nd (fs : Fl) : ((placesOf fs).map (·.1)).Nodup := by
  rw [show (placesOf fs).map (·.1) = plKeys from plFold_keys fs.pcs rfl]
  exact plKeys_nd
theorem same_kvI {l : List (Str × Int)} (nd : (l.map (·.1)).Nodup) : ∀ p ∈ kvI l, valV (kvI l) p.1 = some p.2 ∧ flatB p.2 = true := by
  intro p hp
  obtain ⟨y, hy, rfl⟩ := List.mem_map.mp hp
  exact ⟨by show valV (kvI l) (.inr y.1) = _; rw [valV_kvI, getA_nodup hy nd]; rfl, rfl⟩
section
variable {K : PySem.W.Frag} {CP CF CL CI : Addr} {F : Ent} {B H : Hp} {f : Addr} {A : AFl} {R L : Led} {Q : VK} {E : XK}
theorem ev_dp {n : Nat} {x y : V} {d : PyData} (h1 : Dp K H x d) (h2 : Dp K H y d) (sh : Shp n d) (hn : n ≤ 60 := by decide) : EvK K H x y := .inl ⟨n, d, h1, h2, sh, hn⟩
theorem ev_pl {D1 D2 : Addr} {st : Fl} (S : Ok F B L H) (m1 : (D1, HO.dK (kvI (placesOf st))) ∈ L) (m2 : (D2, HO.dK (kvI (placesOf st))) ∈ L) (ne : D1 ≠ D2) : EvK K H (.ref D1) (.ref D2) :=
  .inr ⟨D1, D2, _, _, rfl, rfl, ne, S.rdMem m1, S.rdMem m2, rfl, same_kvI (plc_nd st)⟩
theorem ev3 {x1 x2 x3 y1 y2 y3 : V} (h1 : EvK K H x1 y1) (h2 : EvK K H x2 y2) (h3 : EvK K H x3 y3) : ∀ (i : Nat) (x y : V), [x1, x2, x3][i]? = some x → [y1, y2, y3][i]? = some y → EvK K H x y := by
  intro i x y hx hy
  match i, hx, hy with
  | 0, hx, hy => cases hx; cases hy; exact h1
  | 1, hx, hy => cases hx; cases hy; exact h2
  | 2, hx, hy => cases hx; cases hy; exact h3
  | _ + 3, hx, _ => simp at hx
theorem Flo.bookD (Z : Flo K CP CF CL CI F B f A R H) (kk : ∀ (D : Addr) B' H', Ex B B' → Flo K CP CF CL CI F B' f A R H' → Dp K B' (.ref D) (.list (A.book.map encDeed)) → Q (.ref D) H') : spBookOf CF CL CI [.ref f] H Q E := by
  refine ⟨B, A, by rw [Z.hf], Z.S.ex, Z.S.fh0, fun D H' T => ?_⟩
  have S := Z.S.callN T
  obtain ⟨B', e, S', h⟩ := S.toData Z.fb.notes
  exact kk D B' H' e (Z.re S' e) h
theorem Flo.placesD (Z : Flo K CP CF CL CI F B f A R H) (few : A.book.length ≤ 10000) (kk : ∀ (D : Addr) B' H', Ex B B' → Flo K CP CF CL CI F B' f A ((D, .dK (kvI (placesOf A.st))) :: R) H' → Q (.ref D) H') : spPlaces K CP CF CL CI [.ref f] H Q E :=
  Z.places few fun D B' H' e S => kk D B' H' e (Z.re (S.perm List.perm_middle.symm) e)
theorem ne2 {a b : Addr} {o1 o2 : HO} (S : Ok F B ((a, o1) :: L) H) (m : (b, o2) ∈ L) : a ≠ b := fun z => by
  have := S.nd
  rw [List.map_cons, List.nodup_cons] at this
  exact this.1 (z ▸ List.mem_map_of_mem (f := (·.1)) m)
theorem shp_rf {r : Rf} (h : ∀ z, (r = .part z ∨ r = .lacks z ∨ r = .piece z) → z.cps.all (· < 0x110000) = true) : Shp 3 (.tuple (rfDs r)) := Shp.tup fun d hd => by
  have wd : ∀ y ∈ (["part", "count", "lacks", "piece", "lot", "parts", "text"] : List Str), y.cps.all (· < 0x110000) = true := by decide +kernel
  cases r <;> (simp only [rfDs, List.mem_cons, List.not_mem_nil, or_false] at hd; rcases hd with rfl | rfl)
  all_goals first
    | exact Shp.int
    | exact Shp.str (h _ (.inl rfl))
    | exact Shp.str (h _ (.inr (.inl rfl)))
    | exact Shp.str (h _ (.inr (.inr rfl)))
    | exact Shp.str (wd _ (by decide))
theorem kindTQ {X : Exs} {r : Rf} {tl : XK → Hp → VK → Prop} (S : Ok F B L H) (hr : KndR K X r) (h1 : ∀ (E : XK) (Q' : VK), (∀ c d B' H', Ex B B' → Ok F B' L H' → Rz X B' r c d → E c d H') → tl E H Q')
    (h2 : ∀ B' H' t, Ex B B' → Ok F B' L H' → Dp K B' (.ref t) (.tuple (rfDs r)) → Q (.ref t) H') : TTkind K X tl H Q :=
  h1 _ _ fun c d B' H' e T rz => ⟨r, hr, rz.ex T.ex, fun t H'' e' n' ht => h2 _ _ t (e.trans (T.exB (o := .tup (rfV r)) n')) (T.growB e' n' ht) (dp_rf upd_same)⟩
theorem RefQ.ofG {X : Exs} {r : Rf} (Z : Flo K CP CF CL CI F B f A R H) (kk : ∀ c d B' H', Ex B B' → Ok F B' (FL CF CL CI A ++ R) H' → Rz X B' r c d → E c d H') : RefQ X CF CL CI B H A r E :=
  fun c d B' H' e T rz => kk c d B' H' e (Z.S.call T) rz
end
section
variable {P : Program} {w : World} {K : PySem.W.Frag} {H : Hp} {Q : VK} {F : Ent} {B : Hp} {L : Led} {y : V}
end
end LW

namespace LW
open PySem PySem.Spec PyProof.Rows L2 WK PM
/-! kin as data -/
abbrev encKinA (fs : Fl) (k : Nat) : PyData := .tuple [.list (encLT (fs.kinT k)), .list (encIs (fs.kinS k))]
section
variable {K : PySem.W.Frag} {CP CF CL CI : Addr} {F : Ent} {B H : Hp} {f : Addr} {A : AFl} {R : Led} {Q : VK} {E : XK}
end
end LW

namespace LW
open PySem PySem.Spec PyProof.Rows L2 WK PM
local macro_rules | `(tactic| kpr_short) => `(tactic| simp only [List.flatten_cons, List.flatten_nil, List.map_cons, List.map_nil, List.getD_cons_zero, List.getD_cons_succ, List.append_nil, List.append_assoc, List.cons_append, List.nil_append])
abbrev s_law : Stmt := topS 51
theorem sc_law : FnScope ["_law_script", "_law_h", "_law_turn", "_law_names", "_law_needs", "_law_name", "_law_parts", "_law_floor", "_law_have", "_law_pieces", "_law_many", "_law_k", "_law_short", "_law_kept"] ["_law_script"] (defScope s_law) := ⟨rfl, rfl, rfl, by decide +kernel, rfl, by decide +kernel, by decide +kernel⟩
def lawq : Str := "law.<locals>.<lambda>"
def spLaw (K : PySem.W.Frag) (PL : Addr) : Sp := fun vs H Q _ => ∃ (a : Addr) (ns : List Int), vs = [.ref a] ∧ SqL K H a (ns.map V.int) ∧ ns.length ≤ 63 ∧ H PL = some (.tbl #[]) ∧ ∀ H', Q (.bl true) H'
theorem led_dropA {F : Ent} {B H : Hp} {L2 : Led} : ∀ {L1 : Led}, Ok F B (L1 ++ L2) H → Ok F B L2 H
  | [], S => S
  | _ :: _, S => led_dropA (Ok.drop S)
theorem dpAll_rev {K : PySem.W.Frag} {B : Hp} : ∀ {vs : List V} {ds : List PyData}, DpAll K B vs ds → DpAll K B vs.reverse ds.reverse
  | _, _, .nil => .nil
  | _, _, .cons h t => by
    rw [List.reverse_cons, List.reverse_cons]
    exact (dpAll_rev t).append (.cons h .nil)
theorem hand_is12 (fs : Fl) (z : Str) : handOf fs z = fs.hand z := by
  unfold handOf Fl.hand
  rw [lotSum_filter, stkN_stock]
def BkS (A : AFl) : Prop := ∀ d ∈ A.book, Shp 2 (encDeed d)
theorem told_sh {A A' : AFl} {d : Deed} {rs : List PRow} (G : GoodBook rs) (hrs : A.st.rs = rs) (h : BkS A) (ht : (A.st.mDone d).1.isTold = true) (hst : A'.st = (A.st.mDone d).2) : BkS A' ∧ A'.st.rs = rs := by
  have hb : A'.book = A.book ++ [d] := (congrArg Fl.book hst).trans ((mDone_note A.st d).1 ht)
  refine ⟨fun x hx => ?_, by rw [hst, mDone_rs]; exact hrs⟩
  rw [hb] at hx
  rcases List.mem_append.mp hx with hx | hx
  · exact h x hx
  · obtain rfl := List.mem_singleton.mp hx
    exact deed_small G hrs ht
theorem BkS.shp {A : AFl} (h : BkS A) : Shp 3 (.list (A.book.map encDeed)) := Shp.lst fun d hd => by
  obtain ⟨x, hx, rfl⟩ := List.mem_map.mp hd
  exact h x hx
theorem names_ok {n : Nat} {z : Str} (h : z ∈ names12.take n) : z.cps.all (· < 0x110000) = true := by
  have h3 : ∀ y ∈ names12, y.cps.all (· < 0x110000) = true := by decide +kernel
  exact h3 z (List.mem_of_mem_take h)
section
variable {P : Program} {w : World} {K : PySem.W.Frag} {mg : Str → Option Value} {base : Heap} {X : Exs}
theorem ok_law {f c CP CF CL CI PL : Addr} {fd : FuncData} (F : FunC K "law" "law" s_law f c fd) (TB : LamX.TabB base mg c PL) (KG : KindG K mg X) (k3 : KndF K X 3 "name") (G__law_mix : FnG P w K mg base 1 "_law_mix" ["_law_script", "_law_seed"] (spMix K)) (G__law_next : FnG P w K mg base 1 "_law_next" ["_law_h", "_law_many"] spNext)
    (G_Floor : MkG P w K mg base 5 CF "Floor" ["self", "parts", "rates"] (spFInit K CP CF CL CI)) (G_buy : MtG P w K mg base 3 CF "buy" ["self", "part", "many", "price"] (spBuy K CP CF CL CI)) (G_begin : MtG P w K mg base 3 CF "begin" ["self", "part"] (spBegin K CP CF CL CI)) (GX_begin : MtGX P w K mg base 4 CF "begin" ["self", "part"] (spBeginR K X CP CF CL CI))
    (G_work : MtG P w K mg base 2 CF "work" ["self", "number"] (spWork K CP CF CL CI)) (G_test : MtG P w K mg base 2 CF "test" ["self", "number", "good"] (spTest K CP CF CL CI)) (G_at_hand : MtG P w K mg base 3 CF "at_hand" ["self", "part"] (spAtHand K CP CF CL CI)) (G_state_of : MtG P w K mg base 2 CF "state_of" ["self", "number"] (spStateOf K CP CF CL CI))
    (G_book_of : MtG P w K mg base 1 CF "book_of" ["self"] (spBookOf CF CL CI)) (G_places : FnG P w K mg base 1 "places" ["floor"] (spPlaces K CP CF CL CI))
    (n_range : mg "range" = none) (n_tuple : mg "tuple" = none) (n_int : mg "int" = none) (n_max : mg "max" = none) (n_dict : mg "dict" = none) : FnOk P w K mg base CX0 15 f fd ["_law_script"] (spLaw K PL) := by
  refine F.okC sc_law (fun vs H Q E h => ?_) (fun Ar outer s H vs Q E hr h => ?_)
  · obtain ⟨a, ns, rfl, _⟩ := h
    rfl
  · obtain ⟨a, ns, rfl, hq0, hlen, hPL, kend⟩ := h
    have S := Ok.startT hPL
    have hsq := sansT_sq hPL hq0
    generalize sansT H PL = B0 at S hsq
    generalize hFe : (⟨B0, H, [PL]⟩ : Ent) = F0 at S
    refine with_al (P := P) (w := w) (K := K) hr (fun al => ?_)
    have hq : (Str.ofString "law" ++ ".<locals>.") ++ "<lambda>" = lawq := by decide +kernel
    refine ⟨_, (pss_cons (ps_asg (pe_fn G__law_mix (hr.mono (by first | decide | omega)) rfl (pa_cons (pv 0) (pa_cons pe_int pa_nil))) (pg_name (i := 1) sc_law.nd rfl (by first | exact Or.inl rfl | exact Or.inr rfl))) (pss_cons (ps_for PassesOwn.never rfl (pi_range1 (by rfl) n_range (pa_cons pe_int pa_nil)) (pg_name (i := 2) sc_law.nd rfl (by first | exact Or.inl rfl | exact Or.inr rfl)) (pss_cons (ps_asg (pe_slice (slU al) (pe_lst (pa_cons pe_str (pa_cons pe_str (pa_cons pe_str (pa_cons pe_str pa_nil))))) po_none (po_some (pe_op (opU al) pe_int (pe_fn G__law_next (hr.mono (by first | decide | omega)) rfl (pa_cons (pv 1) (pa_cons pe_int pa_nil)))))) (pg_name (i := 3) sc_law.nd rfl (by first | exact Or.inl rfl | exact Or.inr rfl))) (pss_cons (ps_asg (pe_callTy (callU al) (by rfl) n_tuple b_tuple (pa_cons (pe_lc (own := [("_law_name", 5)]) al.calm sc_law.nd (pi_val al (pv 3)) (blkOk_by (own := [("_law_name", 5)]) (N := ["_law_script", "_law_h", "_law_turn", "_law_names", "_law_needs", "_law_name", "_law_parts", "_law_floor", "_law_have", "_law_pieces", "_law_many", "_law_k", "_law_short", "_law_kept"]) (sc := (defScope s_law)) (by decide +kernel)) (fun _ _ _ _ _ => (pg_name (i := 5) sc_law.nd rfl (by first | exact Or.inl rfl | exact Or.inr rfl))) (fun _ _ _ _ _ => pts_nil) (fun _ _ _ _ _ => (pe_tup (pa_cons (pv 5) (pa_cons (pe_op (opU al) pe_int (pe_fn G__law_next (hr.mono (by first | decide | omega)) rfl (pa_cons (pv 1) (pa_cons pe_int pa_nil)))) pa_nil))))) pa_nil)) (pg_name (i := 4) sc_law.nd rfl (by first | exact Or.inl rfl | exact Or.inr rfl))) (pss_cons (ps_asg (pe_cut (pe_ifExp (pt_cmpR (opU al) (pe_fn G__law_next (hr.mono (by first | decide | omega)) rfl (pa_cons (pv 1) (pa_cons pe_int pa_nil))) pe_int (nomark _)) (pe_revTFK K (pv 4)) (pv 4))) (pg_name (i := 4) sc_law.nd rfl (by first | exact Or.inl rfl | exact Or.inr rfl))) (pss_cons (ps_asg (pe_op (opU al) (pe_lc (own := [("_law_name", 5)]) al.calm sc_law.nd (pi_val al (pv 3)) (blkOk_by (own := [("_law_name", 5)]) (N := ["_law_script", "_law_h", "_law_turn", "_law_names", "_law_needs", "_law_name", "_law_parts", "_law_floor", "_law_have", "_law_pieces", "_law_many", "_law_k", "_law_short", "_law_kept"]) (sc := (defScope s_law)) (by decide +kernel)) (fun _ _ _ _ _ => (pg_name (i := 5) sc_law.nd rfl (by first | exact Or.inl rfl | exact Or.inr rfl))) (fun _ _ _ _ _ => pts_nil) (fun _ _ _ _ _ => (pe_tup (pa_cons (pv 5) (pa_cons (pe_tup pa_nil) (pa_cons (pe_op (opU al) (pe_tup (pa_cons (pe_tup (pa_cons pe_int (pa_cons pe_int pa_nil))) pa_nil)) (pe_callTy (callU al) (by rfl) n_int b_int (pa_cons (pe_cmpR (opU al) (pv 5) pe_str (nomark _)) pa_nil))) (pa_cons pe_int (pa_cons pe_int pa_nil)))))))) (pe_lst (pa_cons (pe_tup (pa_cons pe_str (pa_cons (pv 4) (pa_cons (pe_tup pa_nil) (pa_cons pe_int (pa_cons pe_int pa_nil)))))) pa_nil))) (pg_name (i := 6) sc_law.nd rfl (by first | exact Or.inl rfl | exact Or.inr rfl))) (pss_cons (ps_asg (pe_tup (pa_cons (pe_mk G_Floor (hr.mono (by first | decide | omega)) rfl (pa_cons (pv 6) (pa_cons (pe_op (opU al) (pe_lst (pa_cons pe_int pa_nil)) pe_int) pa_nil))) (pa_cons pe_dnewK pa_nil))) (pg_tupU (n := 2) K (pgs_cons (pg_name (i := 7) sc_law.nd rfl (by first | exact Or.inl rfl | exact Or.inr rfl)) (pgs_cons (pg_name (i := 8) sc_law.nd rfl (by first | exact Or.inl rfl | exact Or.inr rfl)) pgs_nil)))) (pss_cons (ps_asg pe_int (pg_name (i := 9) sc_law.nd rfl (by first | exact Or.inl rfl | exact Or.inr rfl))) (pss_cons (ps_for PassesOwn.never rfl (pi_val al (pv 4)) (pg_tupU (n := 2) K (pgs_cons (pg_name (i := 5) sc_law.nd rfl (by first | exact Or.inl rfl | exact Or.inr rfl)) (pgs_cons (pg_name (i := 10) sc_law.nd rfl (by first | exact Or.inl rfl | exact Or.inr rfl)) pgs_nil))) (pss_cons (ps_asg (pe_callB (callU al) (by rfl) n_max b_max (pa_cons pe_int (pa_cons (pe_op (opU al) (pv 10) (pe_fn G__law_next (hr.mono (by first | decide | omega)) rfl (pa_cons (pv 1) (pa_cons pe_int pa_nil)))) pa_nil))) (pg_sub (pv 8) (pv 5) (setU al))) (pss_one (ps_if (pt_cmpR (opU al) (pv 5) pe_str (nomark _)) (pss_one (ps_for PassesOwn.never rfl (pi_range1 (by rfl) n_range (pa_cons (pe_ix (ixU al) (pv 8) (pv 5) (fun _ _ => rfl)) pa_nil)) (pg_name (i := 11) sc_law.nd rfl (by first | exact Or.inl rfl | exact Or.inr rfl)) (pss_cons (ps_expr (pe_mth G_begin (hr.mono (by first | decide | omega)) (pv 7) (pa_cons pe_str pa_nil))) (pss_cons (ps_expr (pe_mth G_work (hr.mono (by first | decide | omega)) (pv 7) (pa_cons (pv 9) pa_nil))) (pss_cons (ps_expr (pe_mth G_test (hr.mono (by first | decide | omega)) (pv 7) (pa_cons (pv 9) (pa_cons pe_bl pa_nil)))) (pss_one (ps_asg (pe_op (opU al) (pv 9) pe_int) (pg_name (i := 9) sc_law.nd rfl (by first | exact Or.inl rfl | exact Or.inr rfl))))))))) (pss_one (ps_if (pt_cmpR (opU al) (pe_ix (ixU al) (pv 8) (pv 5) (fun _ _ => rfl)) pe_int (nomark _)) (pss_one (ps_expr (pe_mth G_buy (hr.mono (by first | decide | omega)) (pv 7) (pa_cons (pv 5) (pa_cons (pe_ix (ixU al) (pv 8) (pv 5) (fun _ _ => rfl)) (pa_cons pe_int pa_nil)))))) pss_nil)))))) (pss_cons (ps_setLc (i := 12) (own := [("_law_name", 5), ("_law_many", 10)]) al.calm sc_law.nd rfl rfl (sw_true rfl rfl rfl (by decide +kernel)) (pi_val al (pv 4)) (blkOk_by (own := [("_law_name", 5), ("_law_many", 10)]) (N := ["_law_script", "_law_h", "_law_turn", "_law_names", "_law_needs", "_law_name", "_law_parts", "_law_floor", "_law_have", "_law_pieces", "_law_many", "_law_k", "_law_short", "_law_kept"]) (sc := (defScope s_law)) (by decide +kernel)) (fun _ _ _ _ _ => (pg_tupU (n := 2) K (pgs_cons (pg_name (i := 5) sc_law.nd rfl (by first | exact Or.inl rfl | exact Or.inr rfl)) (pgs_cons (pg_name (i := 10) sc_law.nd rfl (by first | exact Or.inl rfl | exact Or.inr rfl)) pgs_nil)))) (fun _ _ _ _ _ => pts_one (pt_cmpR (opU al) (pe_ix (ixU al) (pv 8) (pv 5) (fun _ _ => rfl)) (pv 10) (nomark _))) (fun _ _ _ _ _ => (pv 5))) (pss_cons (ps_asg (pe_lst (pa_cons (pe_fn G_places (hr.mono (by first | decide | omega)) rfl (pa_cons (pv 7) pa_nil)) (pa_cons (pe_mth0 G_book_of (hr.mono (by first | decide | omega)) (pv 7)) (pa_cons (pe_lc (own := [("_law_name", 5)]) al.calm sc_law.nd (pi_val al (pv 3)) (blkOk_by (own := [("_law_name", 5)]) (N := ["_law_script", "_law_h", "_law_turn", "_law_names", "_law_needs", "_law_name", "_law_parts", "_law_floor", "_law_have", "_law_pieces", "_law_many", "_law_k", "_law_short", "_law_kept"]) (sc := (defScope s_law)) (by decide +kernel)) (fun _ _ _ _ _ => (pg_name (i := 5) sc_law.nd rfl (by first | exact Or.inl rfl | exact Or.inr rfl))) (fun _ _ _ _ _ => pts_nil) (fun _ _ _ _ _ => (pe_mth G_at_hand (hr.mono (by first | decide | omega)) (pv 7) (pa_cons (pv 5) pa_nil)))) pa_nil)))) (pg_name (i := 13) sc_law.nd rfl (by first | exact Or.inl rfl | exact Or.inr rfl))) (pss_one (ps_if (pt_cmpR (opU al) (pv 12) (pe_lst pa_nil) (nomark _)) (pss_cons (ps_if (pt_cmpR (opU al) (pe_lc (own := [("_law_k", 11)]) al.calm sc_law.nd (pi_range1 (by rfl) n_range (pa_cons pe_int pa_nil)) (blkOk_by (own := [("_law_k", 11)]) (N := ["_law_script", "_law_h", "_law_turn", "_law_names", "_law_needs", "_law_name", "_law_parts", "_law_floor", "_law_have", "_law_pieces", "_law_many", "_law_k", "_law_short", "_law_kept"]) (sc := (defScope s_law)) (by decide +kernel)) (fun _ _ _ _ _ => (pg_name (i := 11) sc_law.nd rfl (by first | exact Or.inl rfl | exact Or.inr rfl))) (fun _ _ _ _ _ => pts_nil) (fun _ _ _ _ _ => (pe_kind (k := 5) K KG TB rfl hq (hr.mono (by first | decide | omega)) rfl (lamS_in (by decide +kernel)) rfl (fun _ _ _ _ _ => rfl) (fun A2 o2 s2 H2 E2 f2 c2 hr => (have al : Al P w K (LamX.lamCx _ A2 o2 s2 H2 E2 _ f2 c2) := al_of hr; (pe_mthX GX_begin (hr.mono (by first | decide | omega)) (passes_call (takes_of rfl rfl rfl rfl) (fun _ _ _ _ hh => hh)) (pv 7) (pa_cons pe_str pa_nil))))))) (pe_op (opU al) (pe_lst (pa_cons (pe_tup (pa_cons pe_str (pa_cons (pe_ix (ixU al) (pv 12) pe_int (fun _ _ => rfl)) pa_nil))) pa_nil)) pe_int) (nomark _)) (pss_one (ps_ret pe_bl)) pss_nil) (pss_one (ps_if (pt_cmpR (opU al) (pe_lst (pa_cons (pe_fn G_places (hr.mono (by first | decide | omega)) rfl (pa_cons (pv 7) pa_nil)) (pa_cons (pe_mth0 G_book_of (hr.mono (by first | decide | omega)) (pv 7)) (pa_cons (pe_lc (own := [("_law_name", 5)]) al.calm sc_law.nd (pi_val al (pv 3)) (blkOk_by (own := [("_law_name", 5)]) (N := ["_law_script", "_law_h", "_law_turn", "_law_names", "_law_needs", "_law_name", "_law_parts", "_law_floor", "_law_have", "_law_pieces", "_law_many", "_law_k", "_law_short", "_law_kept"]) (sc := (defScope s_law)) (by decide +kernel)) (fun _ _ _ _ _ => (pg_name (i := 5) sc_law.nd rfl (by first | exact Or.inl rfl | exact Or.inr rfl))) (fun _ _ _ _ _ => pts_nil) (fun _ _ _ _ _ => (pe_mth G_at_hand (hr.mono (by first | decide | omega)) (pv 7) (pa_cons (pv 5) pa_nil)))) pa_nil)))) (pv 13) (nomark _)) (pss_one (ps_ret pe_bl)) pss_nil))) (pss_one (ps_if (PW.pt (pw_or (pt_cmpR (opU al) (pe_mth G_begin (hr.mono (by first | decide | omega)) (pv 7) (pa_cons pe_str pa_nil)) (pv 9) (nomark _)) (pw_or1 (pt_cmpR (opU al) (pe_mth G_state_of (hr.mono (by first | decide | omega)) (pv 7) (pa_cons (pv 9) pa_nil)) pe_str (nomark _))))) (pss_one (ps_ret pe_bl)) (pss_one (ps_if (pt_cmpR (opU al) (pe_lc (own := [("_law_name", 5)]) al.calm sc_law.nd (pi_val al (pv 3)) (blkOk_by (own := [("_law_name", 5)]) (N := ["_law_script", "_law_h", "_law_turn", "_law_names", "_law_needs", "_law_name", "_law_parts", "_law_floor", "_law_have", "_law_pieces", "_law_many", "_law_k", "_law_short", "_law_kept"]) (sc := (defScope s_law)) (by decide +kernel)) (fun _ _ _ _ _ => (pg_name (i := 5) sc_law.nd rfl (by first | exact Or.inl rfl | exact Or.inr rfl))) (fun _ _ _ _ _ => pts_nil) (fun _ _ _ _ _ => (pe_mth G_at_hand (hr.mono (by first | decide | omega)) (pv 7) (pa_cons (pv 5) pa_nil)))) (pe_lc (own := [("_law_name", 5)]) al.calm sc_law.nd (pi_val al (pv 3)) (blkOk_by (own := [("_law_name", 5)]) (N := ["_law_script", "_law_h", "_law_turn", "_law_names", "_law_needs", "_law_name", "_law_parts", "_law_floor", "_law_have", "_law_pieces", "_law_many", "_law_k", "_law_short", "_law_kept"]) (sc := (defScope s_law)) (by decide +kernel)) (fun _ _ _ _ _ => (pg_name (i := 5) sc_law.nd rfl (by first | exact Or.inl rfl | exact Or.inr rfl))) (fun _ _ _ _ _ => pts_nil) (fun _ _ _ _ _ => (pe_op (opU al) (pe_ix (ixU al) (pv 8) (pv 5) (fun _ _ => rfl)) (pe_ix (ixU al) (pe_callTy (callU al) (by rfl) n_dict b_dict (pa_cons (pv 4) pa_nil)) (pv 5) (fun _ _ => rfl))))) (nomark _)) (pss_one (ps_ret pe_bl)) pss_nil)))))))))))))))) (pss_one (ps_ret pe_bl)))), ?_⟩
    repeat tb_start
    refine ⟨B0, a, ns, 31, rfl, S.ex, hsq, hlen, by decide, by decide, fun m p q B1 H1 _ _ T1 => ?_⟩
    have S1 := S.callN T1
    repeat tb_start
    refine rngQ (by decide) (by decide) ?_
    refine forDS src_range (S1 : Ok F0 B1 (hL p q m ns 0 ++ [(PL, .tbl #[])]) H1) (fun i σ B1 L1 => (∃ yy2 yy3 yy4 yy5 yy6 yy7 yy8 yy9 yy10 yy11 yy12 yy13, σ = [some (.ref a), some (.ref p), yy2, yy3, yy4, yy5, yy6, yy7, yy8, yy9, yy10, yy11, yy12, yy13]) ∧ ∃ pl m cs kk, HS cs kk ∧ TabL B1 lawq pl ∧ L1 = hL p q m cs kk ++ [(PL, .tbl pl)]) (fun _ _ _ _ _ _ => True.intro) ?_ ?_ ?_
    · exact ⟨⟨_, _, _, _, _, _, _, _, _, _, _, _, rfl⟩, _, _, _, _, ⟨hlen, by decide⟩, TabL.nil, rfl⟩
    · rintro i i2 x σ B0' B2 L1 H2 hget ⟨⟨_, _, _, _, _, _, _, _, _, _, _, _, rfl⟩, pl, m, cs, kk, hS, hT, rfl⟩ e1 e2 S2 rfl
      replace hT := hT.up e2
      repeat tb_start
      refine new_lst S2 (by show 4 ≤ sizeLine; decide) fun D3 H3 S3 => ?_
      obtain ⟨B4, e4, S4, d4⟩ := S3.toData (K := K) (ds := names12.map PyData.str) (.cons (.str _) (.cons (.str _) (.cons (.str _) (.cons (.str _) .nil))))
      repeat tb_start
      refine nextQ [] [(PL, .tbl pl)] S4 hS (by decide) (by decide) fun n1 m1 cs1 kk1 H5 q0 q1 hS1 S5 => ?_
      replace S5 : Ok F0 B4 (hL p q m1 cs1 kk1 ++ [(PL, .tbl pl)]) H5 := S5
      obtain ⟨n, hn⟩ : ∃ n : Nat, (1 + n1 : Int) = (n : Int) := ⟨(1 + n1).toNat, by omega⟩
      repeat tb_start
      rw [hn]
      refine v_slTo S5 d4 fun vn B6 H6 e6 S6 d6 => ?_
      rw [← List.map_take] at d6
      have gn1 : 1 ≤ n := by omega
      have gn4 : n ≤ 4 := by omega
      have gln : (names12.take n).length = n := by rw [List.length_take]; show min n 4 = n; omega
      clear S3 S4 S5 S2 hS d4 q0 q1
      repeat tb_start
      refine lcDL (enc := PyData.str) S6 d6 (fun i acc B1 L1 => ∃ (ns : List (Str × Int)) (m : Int) (cs : List Int) (kk : Int), L1 = hL p q m cs kk ++ [(PL, .tbl pl)] ∧ HS cs kk ∧ DpAll K B1 acc (ns.map encNeed) ∧ ns.map (·.1) = (names12.take n).take i ∧ ∀ x ∈ ns, 1 ≤ x.2 ∧ x.2 ≤ 9) ?_ ?_ ?_
      · exact ⟨[], _, _, _, rfl, hS1, .nil, rfl, fun _ h => nomatch h⟩
      · rintro i z xv acc B7a B7 L7 D7 H7 hz ⟨ns, m7, cs7, kk7, rfl, hS7, hacc, hk, hm⟩ e7a e7 S7 hv
        obtain rfl := hv.str_inv
        repeat tb_start
        refine ⟨rfl, ?_⟩
        repeat tb_start
        refine nextQ [(D7, .lst acc)] [(PL, .tbl pl)] S7 hS7 (by decide) (by decide) fun n2 m8 cs8 kk8 H8 q2 q3 hS8 S8 => ?_
        repeat tb_start
        refine new_tupD (K := K) S8 (ds := [.str z, .int (1 + n2)]) (.cons (.str _) (.cons (.int _) .nil)) (by simp) fun t9 B9 H9 e9 S9 h9 => ?_
        have hal := hacc.length
        rw [List.length_map] at hal
        have hnl : ns.length ≤ n := by
          have := congrArg List.length hk
          rw [List.length_map] at this
          rw [this, List.length_take, gln]
          omega
        refine Acc.mk S9 (by rw [sizeLine_eq]; omega) ⟨e7a.trans (e7.trans e9), ns ++ [(z, 1 + n2)], m8, cs8, kk8, rfl, hS8, ?_, ?_, fun x hx => ?_⟩
        · rw [List.map_append]
          exact (hacc.up (e7.trans e9)).append (.cons h9 .nil)
        · rw [List.map_append, hk, List.take_add_one, hz]
          rfl
        · rcases List.mem_append.mp hx with hx | hx
          · exact hm x hx
          · obtain rfl := List.mem_singleton.mp hx
            dsimp only
            omega
      rintro acc B10 L10 D10 H10 ⟨nd0, m10, cs10, kk10, rfl, hS10, hacc10, hk10, hm10⟩ e10 S10
      rw [gln, List.take_of_length_le (by rw [gln]; exact Nat.le_refl _)] at hk10
      repeat tb_start
      refine v_tupleF S10 (S10.sqMem (.head _)) fun t11 B11 H11 e11 T11 S11 => ?_
      replace S11 : Ok F0 B11 (hL p q m10 cs10 kk10 ++ [(PL, .tbl pl)]) H11 := S11.drop
      replace hacc10 := hacc10.up e11
      replace d6 := d6.up (e10.trans e11)
      have hT11 := hT.up (e4.trans (e6.trans (e10.trans e11)))
      clear S6 S10 hS1
      repeat tb_start
      refine cutE (fun v H' => ∃ (t : Addr) (xs : List V) (needs : List (Str × Int)) (m : Int) (cs : List Int) (kk : Int) (B' : Hp), v = .ref t ∧ HS cs kk ∧ Ex B11 B' ∧ Ok F0 B' (hL p q m cs kk ++ [(PL, .tbl pl)]) H' ∧ TupF B' t xs ∧ DpAll K B' xs (needs.map encNeed) ∧ Nd12 n needs) ?_ ?_
      · repeat tb_start
        refine nextQ [] [(PL, .tbl pl)] S11 hS10 (by decide) (by decide) fun n3 m12 cs12 kk12 H12 q4 q5 hS12 S12 => ?_
        replace S12 : Ok F0 B11 (hL p q m12 cs12 kk12 ++ [(PL, .tbl pl)]) H12 := S12
        repeat tb_start
        by_cases h0 : n3 = 0
        · refine ifdT h0 ?_
          repeat tb_start
          unfold tRevTF
          repeat tb_start
          refine ⟨t11, acc, rfl, S12.tqB (T11.sqT (K := K)), fun t13 o13 ho13 hp13 => ?_⟩
          have e13 : Ex B11 (upd B11 t13 (.frz o13 (.tup acc.reverse))) := S12.exB hp13
          have T13 : TupF (upd B11 t13 (.frz o13 (.tup acc.reverse))) t13 acc.reverse := ⟨o13, upd_same, ho13⟩
          have S13 : Ok F0 (upd B11 t13 (.frz o13 (.tup acc.reverse))) (hL p q m12 cs12 kk12 ++ [(PL, .tbl pl)]) (upd H12 t13 (.frz o13 (.tup acc.reverse))) := S12.newB hp13
          refine ⟨t13, _, nd0.reverse, m12, cs12, kk12, _, rfl, hS12, e13, S13, T13, ?_, ⟨gn1, gn4, .inr (by rw [List.map_reverse, hk10]), fun x hx => hm10 x (List.mem_reverse.mp hx)⟩⟩
          rw [List.map_reverse]
          exact dpAll_rev (hacc10.up e13)
        · refine ifdF h0 ?_
          repeat tb_start
          exact ⟨t11, acc, nd0, m12, cs12, kk12, B11, rfl, hS12, Ex.refl _, S12, T11, hacc10, ⟨gn1, gn4, .inl hk10, hm10⟩⟩
      rintro v14 H14 ⟨t, xs, needs, m14, cs14, kk14, B14, rfl, hS14, e14, S14, T14, hx14, N⟩
      clear S11 T11 hacc10 hk10 hm10 hS10
      replace d6 := d6.up e14
      have hT14 := hT11.up e14
      have dT : Dp K B14 (.ref t) (.tuple (needs.map encNeed)) := .tup T14.sqT hx14
      repeat tb_start
      refine lcPureL S14 d6 (fun _ => true) (fun z => encRow (row12 z)) (by rw [gln]; omega) ?_ ?_
      · intro z xv B15 D15 acc15 H15 C Cs hz e15 S15 hv kC kS
        obtain rfl := hv.str_inv
        repeat tb_start
        refine ⟨rfl, ?_⟩
        repeat tb_start
        refine new_tupD (K := K) S15 (ds := []) .nil (by simp) fun t16 B16 H16 e16 S16 h16 => ?_
        repeat tb_start
        refine new_tupD (K := K) S16 (ds := [.int 0, .int 1]) (.cons (.int _) (.cons (.int _) .nil)) (by simp) fun t17 B17 H17 e17 S17 h17 => ?_
        repeat tb_start
        refine new_tup S17 (by show 1 ≤ sizeLine; decide) fun t18 B18 H18 e18 g18 S18 => ?_
        have h18 : Dp K B18 (.ref t18) (.tuple [.tuple [.int 0, .int 1]]) := Dp.ofTup g18 (.cons (h17.up e18) .nil)
        repeat tb_start
        by_cases hpb : z = "pb"
        · subst hpb
          refine v_mul1 (S18.tqB (.inl (.inl g18))) (by simp) ?_
          repeat tb_start
          refine new_tupD (K := K) S18 (ds := [.str "pb", .tuple [], .tuple [.tuple [.int 0, .int 1]], .int 1, .int 0]) (.cons (.str _) (.cons (h16.up (e17.trans e18)) (.cons h18 (.cons (.int _) (.cons (.int _) .nil))))) (by simp) fun t19 B19 H19 e19 S19 h19 => ?_
          exact kC _ _ _ rfl (e16.trans (e17.trans (e18.trans e19))) S19 h19
        · rw [if_neg (by rw [decide_eq_true_iff]; exact hpb)]
          refine v_mul0 S18 (S18.tqB (.inl (.inl g18))) (by simp) fun t20 B20 H20 e20 g20 S20 => ?_
          repeat tb_start
          refine new_tupD (K := K) S20 (ds := [.str z, .tuple [], .tuple [], .int 1, .int 0]) (.cons (.str _) (.cons (h16.up (e17.trans (e18.trans e20))) (.cons (Dp.ofTup g20 .nil) (.cons (.int _) (.cons (.int _) .nil))))) (by show 5 ≤ 1000; decide) fun t19 B19 H19 e19 S19 h19 => ?_
          refine kC _ _ _ rfl (e16.trans (e17.trans (e18.trans (e20.trans e19)))) S19 ?_
          show Dp K B19 (.ref t19) (.tuple [.str z, .tuple [], .tuple ((steps12 z).map encStep), .int 1, .int 0])
          unfold steps12
          rw [if_neg hpb]
          exact h19
      intro D21 acc21 B21 H21 e21 S21 hacc21
      rw [filter_tt] at hacc21
      repeat tb_start
      refine new_tupD (K := K) S21 (ds := []) .nil (by simp) fun t22 B22 H22 e22 S22 h22 => ?_
      repeat tb_start
      refine new_tupD (K := K) S22 (ds := [.str "whole", .tuple (needs.map encNeed), .tuple [], .int 1, .int 0]) (.cons (.str _) (.cons (dT.up (e21.trans e22)) (.cons h22 (.cons (.int _) (.cons (.int _) .nil))))) (by simp) fun t23 B23 H23 e23 S23 h23 => ?_
      repeat tb_start
      refine new_lst S23 (by show 1 ≤ sizeLine; decide) fun D24 H24 S24 => ?_
      repeat tb_start
      refine v_catQ S24 (S24.sqMem (.tail _ (.head _))) (S24.sqMem (.head _)) (by
        have := hacc21.length
        rw [List.length_map, gln] at this
        rw [this, sizeLine_eq]
        show n + 1 ≤ _
        omega) fun D25 H25 S25 => ?_
      obtain ⟨B26, e26, S26, d26⟩ := S25.toData (K := K) (ds := (rs12 n needs).map encRow) (by
        unfold rs12
        rw [List.map_append, List.map_map]
        exact (hacc21.up (e22.trans e23)).append (.cons h23 .nil))
      replace S26 : Ok F0 B26 (hL p q m14 cs14 kk14 ++ [(PL, .tbl pl)]) H25 := S26.drop.drop
      have eR : Ex B14 B26 := e21.trans (e22.trans (e23.trans e26))
      replace d6 := d6.up eR
      replace T14 := T14.up eR
      replace hx14 := hx14.up eR
      replace dT := dT.up eR
      have hT26 := hT14.up eR
      clear S21 S22 S23 S24 S25 hacc21 h22 h23 S14
      repeat tb_start
      refine new_lst S26 (by show 1 ≤ sizeLine; decide) fun D27 H27 S27 => ?_
      repeat tb_start
      refine v_rep S27 (S27.own _ (.head _)).1 (by decide) (by decide) (by show 1 ≤ 100; decide) fun hd H28 S28 => ?_
      have S29 : Ok F0 B26 ((hd, .lst ((List.replicate 6 (3 : Int)).map V.int)) :: (hL p q m14 cs14 kk14 ++ [(PL, .tbl pl)])) H28 := (S28.perm (.swap _ _ _)).drop
      clear S26 S27 S28
      repeat tb_start
      refine mkQ S29 fun fl dx H30 S30 => ?_
      have hd1 : H30 hd = some (.lst ((List.replicate 6 (3 : Int)).map V.int)) := S30.mem (.tail _ (.head _))
      have hd2 : hd ∉ [fl] := fun z => by
        have := S30.nd
        rw [List.map_cons, List.nodup_cons] at this
        rw [List.mem_singleton] at z
        exact this.1 (z ▸ .head _)
      have hrt : ∀ x ∈ List.replicate 6 (3 : Int), 0 ≤ x ∧ x ≤ 99 := fun x hx => by rw [List.eq_of_mem_replicate hx]; omega
      have hgood : GoodBook (rs12 n needs) := N.good
      refine ⟨B26, fl, dx, _, _, rs12 n needs, List.replicate 6 3, rfl, S30.sub (L1 := [_]), .inl d26, hgood, Stays.ofCell hd1 hd2, rfl, hrt, fun A0 B31 H31 e31 T31 fb0 hst0 hf => retQ ?_⟩
      have S31 : Ok F0 B31 (FL CF CL CI A0 ++ ((hd, .lst ((List.replicate 6 (3 : Int)).map V.int)) :: (hL p q m14 cs14 kk14 ++ [(PL, .tbl pl)]))) H31 := S30.call (L1 := [_]) T31
      have S32 : Ok F0 B31 (FL CF CL CI A0 ++ (hL p q m14 cs14 kk14 ++ [(PL, .tbl pl)])) H31 := (S31.perm List.perm_middle).drop
      have hinv0 : FlOk A0.st := by rw [hst0]; exact FlOk.new hgood rfl hrt
      have hbk0 : A0.book.length = 0 := by rw [show A0.book = [] from congrArg Fl.book hst0]; rfl
      have hpc0 : A0.st.pcs.length = 0 := by rw [hst0]; rfl
      have hK0 : K12 n needs [] A0.st := by rw [hst0]; exact K12.knew n needs
      have hbs0 : A0.book = [] := congrArg Fl.book hst0
      replace d6 := d6.up e31
      replace T14 := T14.up e31
      replace hx14 := hx14.up e31
      replace dT := dT.up e31
      replace hT26 := hT26.up e31
      clear S29 S30 S31 T31 hd1 hd2 d26
      repeat tb_start
      refine new_dK S32 fun hv H33 S33 => ?_
      repeat tb_start
      refine new_tup S33 (by show 2 ≤ sizeLine; decide) fun t33 B33 H33a e33 g33 S33a => ?_
      refine r_gtupB S33a g33 rfl ?_
      repeat tb_start
      have S34 : Ok F0 B33 (FL CF CL CI A0 ++ ((hv, .dK (kvI [])) :: (hL p q m14 cs14 kk14 ++ [(PL, .tbl pl)]))) H33a := S33a.perm List.perm_middle.symm
      replace d6 := d6.up e33
      replace T14 := T14.up e33
      replace hx14 := hx14.up e33
      replace dT := dT.up e33
      replace hT26 := hT26.up e33
      replace fb0 := fb0.up e33
      refine forDT (enc := encNeed) S34 dT (fun i σ B1 L1 => ∃ (A : AFl) (l : List (Str × Int)) (m : Int) (cs : List Int) (kk : Int), (∃ yy2 yy5 yy6 yy10 yy11 yy12 yy13, σ = [some (.ref a), some (.ref p), yy2, some (vn), some (.ref t), yy5, yy6, some (.ref fl), some (.ref hv), some (.int (A.st.pcs.length : Int)), yy10, yy11, yy12, yy13]) ∧ L1 = FL CF CL CI A ++ ((hv, .dK (kvI l)) :: (hL p q m cs kk ++ [(PL, .tbl pl)])) ∧
        FB K CP B1 A ∧ FlOk A.st ∧ A.f = fl ∧ K12 n needs l A.st ∧ l.map (·.1) = (needs.take i).map (·.1) ∧ HS cs kk ∧ A.book.length ≤ 30 * i ∧ BkS A) ?_ ?_ ?_
      · exact ⟨A0, [], m14, cs14, kk14, by rw [hpc0]; exact ⟨_, _, _, _, _, _, _, rfl⟩, rfl, fb0, hinv0, hf, hK0, rfl, hS14, by rw [hbk0]; exact Nat.zero_le _, fun d hd => by rw [hbs0] at hd; exact nomatch hd⟩
      · rintro j ⟨z, many⟩ xv σ B35a B35 L35 H35 hj ⟨A, l, m35, cs35, kk35, ⟨_, _, _, _, _, _, _, rfl⟩, rfl, fbA, invA, hfA, hK, hl, hS35, hbA, hsA⟩ e35a e35 S35 hv35
        refine r_gtupSI S35 hv35 ?_
        have hzn : z ∈ names12.take n := (N.mem z).mp (List.mem_map.mpr ⟨_, List.mem_of_getElem? hj, rfl⟩)
        have hmz := N.many _ (List.mem_of_getElem? hj)
        have htk : needs.take (j + 1) = needs.take j ++ [(z, many)] := by rw [List.take_add_one, hj]; rfl
        have hzl : z ∉ l.map (·.1) := by
          have nd := N.nd
          have h2 : ((needs.take (j + 1)).map (·.1)).Nodup := ((List.take_sublist (j + 1) needs).map (·.1)).nodup nd
          rw [htk, List.map_append, List.nodup_append] at h2
          rw [hl]
          exact fun h => h2.2.2 z h z (.head _) rfl
        have Z35 : Flo K CP CF CL CI F0 B35 fl A ((hv, .dK (kvI l)) :: (hL p q m35 cs35 kk35 ++ [(PL, .tbl pl)])) H35 := ⟨S35, fbA.up e35, invA, hfA⟩
        have hx35 := Z35.hx
        dsimp only at hmz
        repeat tb_start
        refine Z35.next [(hv, .dK (kvI l))] [(PL, .tbl pl)] hS35 (by decide) (by decide) fun n5 m38 cs38 kk38 H38 q6 q7 hS38 Z38 => ?_
        repeat tb_start
        have hv0 : 0 ≤ (if many - n5 > 0 then many - n5 else 0) ∧ (if many - n5 > 0 then many - n5 else 0) ≤ 9 := by split <;> omega
        generalize (if many - n5 > 0 then many - n5 else 0) = v at hv0 ⊢
        have S38 : Ok F0 B35 ((hv, .dK (kvI l)) :: (FL CF CL CI A ++ (hL p q m38 cs38 kk38 ++ [(PL, .tbl pl)]))) H38 := Z38.S.perm List.perm_middle
        have hll : l.length ≤ 4 := by
          have h1 := congrArg List.length hl
          rw [List.length_map, List.length_map, List.length_take] at h1
          have := N.len
          omega
        have hnl : (Sum.inr z : Key) ∉ (kvI l).map (·.1) := fun h => by
          obtain ⟨y, hy, e⟩ := List.mem_map.mp h
          obtain ⟨x, hx, rfl⟩ := List.mem_map.mp hy
          have e2 : x.1 = z := Sum.inr.inj e
          exact hzl (List.mem_map.mpr ⟨x, hx, e2⟩)
        refine v_setKN (k := .inr z) 0 S38 rfl rfl (by rw [List.length_map, sizeLine_eq]; omega) fun H39 S39 => ?_
        replace S39 : Ok F0 B35 ((hv, .dK (putK (kvI l) (.inr z) (.int v))) :: (FL CF CL CI A ++ (hL p q m38 cs38 kk38 ++ [(PL, .tbl pl)]))) H39 := S39
        rw [putK_new _ (valV_none hnl), show kvI l ++ [((Sum.inr z : Key), V.int v)] = kvI (l ++ [(z, v)]) by rw [show kvI (l ++ [(z, v)]) = kvI l ++ kvI [(z, v)] from List.map_append]; rfl] at S39
        have hl' : (l ++ [(z, v)]).map (·.1) = (needs.take (j + 1)).map (·.1) := by rw [htk, List.map_append, List.map_append, hl]; rfl
        have hgz : getA (l ++ [(z, v)]) z = some v := by
          refine getA_nodup (y := (z, v)) (List.mem_append_right _ (.head _)) ?_
          rw [hl']
          exact ((List.take_sublist (j + 1) needs).map (·.1)).nodup N.nd
        have hvz : valV (kvI (l ++ [(z, v)])) (.inr z) = some (.int v) := by rw [valV_kvI, hgz]; rfl
        have Z39 : Flo K CP CF CL CI F0 B35 fl A ((hv, .dK (kvI (l ++ [(z, v)]))) :: (hL p q m38 cs38 kk38 ++ [(PL, .tbl pl)])) H39 := ⟨S39.perm List.perm_middle.symm, Z35.fb, invA, hfA⟩
        clear S35 S38 S39 Z35 Z38 hx35 hnl
        have hx39 := Z39.hx
        have hbk39 : A.book.length + 27 ≤ 30 * (j + 1) := by omega
        have hj4 : j < 4 := by
          have := (List.getElem?_eq_some_iff.mp hj).1
          have := N.len
          omega
        repeat tb_start
        by_cases hpb : z = "pb"
        · subst hpb
          refine ifdT rfl ?_
          repeat tb_start
          refine v_ixDS (Z39.S.rdMem (List.mem_append_right _ (.head _))) hvz ?_
          repeat tb_start
          refine rngQ (by omega) (by omega) ?_
          refine forDS src_rng Z39.S (fun i σ B1 L1 => ∃ (A' : AFl), (∃ yy2 yy5 yy6 yy10 yy11 yy12 yy13, σ = [some (.ref a), some (.ref p), yy2, some (vn), some (.ref t), yy5, yy6, some (.ref fl), some (.ref hv), some (.int (A'.st.pcs.length : Int)), yy10, yy11, yy12, yy13]) ∧ L1 = FL CF CL CI A' ++ ((hv, .dK (kvI (l ++ [(("pb" : Str), v)]))) :: (hL p q m38 cs38 kk38 ++ [(PL, .tbl pl)])) ∧
            FB K CP B1 A' ∧ FlOk A'.st ∧ A'.f = fl ∧ M12 n needs l (i : Int) A'.st ∧ A'.book.length = A.book.length + 3 * i ∧ BkS A') (fun _ _ _ _ _ _ => True.intro) ?_ ?_ ?_
          · exact ⟨A, ⟨_, _, _, _, _, _, _, rfl⟩, rfl, Z39.fb, Z39.inv, Z39.hf, hK.km, rfl, hsA⟩
          · rintro i3 i4 x3 σ B40a B40 L40 H40 hi ⟨A', ⟨_, _, _, _, _, _, _, rfl⟩, rfl, fb4, inv4, hf4, hM, hb4, hs4⟩ e40a e40 S40 rfl
            obtain ⟨rfl, hi5⟩ := rng_at hi
            have MD := hM.made inv4 hzn
            have t1 : (A'.st.mDone (.begin_ "pb")).1.isTold = true := by rw [MD.t1]; rfl
            have t2 := MD.t2
            have t3 := MD.t3
            have tm := MD.m
            have tl := MD.len
            have Z40 : Flo K CP CF CL CI F0 B40 fl A' ((hv, .dK (kvI (l ++ [(("pb" : Str), v)]))) :: (hL p q m38 cs38 kk38 ++ [(PL, .tbl pl)])) H40 := ⟨S40, fb4.up e40, inv4, hf4⟩
            have hx40 := Z40.hx
            repeat tb_start
            refine Z40.begin_ (by omega) t1 fun A2 B41 H41 e41 Z41 hst2 => ?_
            have hb2 := told_book t1 hst2
            have hs2 := told_sh hgood hM.rs hs4 t1 hst2
            rw [← hst2] at t2 t3 tm tl
            have hx41 := Z41.hx
            repeat tb_start
            refine Z41.work (k := A'.st.pcs.length) (by omega) t2 fun mi A3 B42 H42 e42 Z42 hst3 _ => ?_
            have hb3 := told_book t2 hst3
            have hs3 := told_sh hgood hs2.2 hs2.1 t2 hst3
            rw [← hst3] at t3 tm tl
            have hx42 := Z42.hx
            repeat tb_start
            refine Z42.test (k := A'.st.pcs.length) (g := true) (by omega) t3 fun A5 B43 H43 e43 Z43 hst5 => ?_
            have hb5 := told_book t3 hst5
            have hs5 := told_sh hgood hs3.2 hs3.1 t3 hst5
            rw [← hst5] at tm tl
            repeat tb_start
            have epl : ((A'.st.pcs.length : Nat) : Int) + 1 = ((A5.st.pcs.length : Nat) : Int) := by omega
            rw [epl]
            exact NxE.mk' Z43.S (e40a.trans (e40.trans (e41.trans (e42.trans e43)))) ⟨A5, ⟨_, _, _, _, _, _, _, rfl⟩, rfl, Z43.fb, Z43.inv, Z43.hf, tm, by omega, hs5.1⟩
          · rintro σ B44 L44 H44 ⟨A', ⟨_, _, _, _, _, _, _, rfl⟩, rfl, fb4, inv4, hf4, hM, hb4, hs4⟩ e44 S44
            rw [List.length_range] at hM hb4
            rw [show ((v.toNat : Nat) : Int) = v by omega] at hM
            exact NxE.mk' S44 (e35a.trans (e35.trans e44)) ⟨A', l ++ [(("pb" : Str), v)], _, _, _, ⟨_, _, _, _, _, _, _, rfl⟩, rfl, fb4, inv4, hf4, hM.kk hzl, hl', hS38, by omega, hs4⟩
        · refine ifdF hpb ?_
          repeat tb_start
          refine v_ixDS (Z39.S.rdMem (List.mem_append_right _ (.head _))) hvz ?_
          repeat tb_start
          by_cases hv1 : v > 0
          · refine ifdT hv1 ?_
            repeat tb_start
            refine v_ixDS (Z39.S.rdMem (List.mem_append_right _ (.head _))) hvz ?_
            repeat tb_start
            obtain ⟨hbuy, hK'⟩ := hK.kbuy N hzn hpb hzl (by omega) (by omega : v ≤ 999)
            have t1 : (A.st.mDone (.buy z v 2)).1.isTold = true := by rw [hbuy]; rfl
            refine Z39.buy (by omega) t1 fun A2 B41 H41 e41 Z41 hst2 => ?_
            have hb2 := told_book t1 hst2
            have hs2 := told_sh hgood hK.rs hsA t1 hst2
            rw [hbuy] at hst2
            dsimp only at hst2
            have epl : ((A.st.pcs.length : Nat) : Int) = ((A2.st.pcs.length : Nat) : Int) := by rw [hst2]; rfl
            repeat tb_start
            rw [epl]
            exact NxE.mk' Z41.S (e35a.trans (e35.trans e41)) ⟨A2, l ++ [(z, v)], _, _, _, ⟨_, _, _, _, _, _, _, rfl⟩, rfl, Z41.fb, Z41.inv, Z41.hf, by rw [hst2]; exact hK', hl', hS38, by omega, hs2.1⟩
          · refine ifdF hv1 ?_
            repeat tb_start
            obtain rfl : v = 0 := by omega
            exact NxE.mk' Z39.S (e35a.trans e35) ⟨A, l ++ [(z, 0)], _, _, _, ⟨_, _, _, _, _, _, _, rfl⟩, rfl, Z39.fb, Z39.inv, Z39.hf, hK.knone hzl, hl', hS38, by omega, hsA⟩
      rintro σ B36 L36 H36 ⟨A, l, m36, cs36, kk36, ⟨_, _, _, _, _, _, _, rfl⟩, rfl, fbA, invA, hfA, hK, hl, hS36, hbA, hsA⟩ e36 S36
      rw [show needs.take needs.length = needs from List.take_length] at hl
      rw [N.len] at hbA
      have hget : ∀ z, z ∈ names12.take n → getA l z = some ((getA l z).getD 0) := fun z hz => by
        have h1 : (getA l z).isSome = true := (getA_isSome l z).mpr (by rw [hl]; exact (N.mem z).mpr hz)
        obtain ⟨v, hv⟩ := Option.isSome_iff_exists.mp h1
        rw [hv]
        rfl
      have hmem : ∀ x ∈ needs, x.1 ∈ names12.take n := fun x hx => (N.mem x.1).mp (List.mem_map.mpr ⟨x, hx, rfl⟩)
      replace d6 := d6.up e36
      replace dT := dT.up e36
      replace T14 := T14.up e36
      replace hx14 := hx14.up e36
      have hT36 := hT26.up e36
      have hbk : A.book.length ≤ 120 := by omega
      have eF : Ex B2 B36 := e4.trans (e6.trans (e10.trans (e11.trans (e14.trans (eR.trans (e31.trans (e33.trans e36)))))))
      clear S34 hT11 hT14 hT26 fb0
      have Z36 : Flo K CP CF CL CI F0 B36 fl A ((hv, .dK (kvI l)) :: (hL p q m36 cs36 kk36 ++ [(PL, .tbl pl)])) H36 := ⟨S36, fbA, invA, hfA⟩
      clear S36 fbA
      repeat tb_start
      refine lcPureT (enc := encNeed) Z36.S dT (fun x => decide ((getA l x.1).getD 0 < x.2)) (fun x => .str x.1) (by rw [N.len]; omega) ?_ ?_
      · rintro ⟨z, many⟩ xv B41 D41 acc41 H41 C Cs hz e41 S41 hv41 kC kS
        refine r_gtupSI S41 hv41 ?_
        repeat tb_start
        refine ⟨rfl, ?_⟩
        repeat tb_start
        refine v_ixDS (kvs := kvI l) (v := .int ((getA l z).getD 0)) (S41.rdMem (.tail _ (List.mem_append_right _ (.head _)))) (by rw [valV_kvI, hget z (hmem _ hz)]; rfl) ?_
        repeat tb_start
        by_cases hlt : (getA l z).getD 0 < many
        · refine ifdT hlt ?_
          repeat tb_start
          exact kC _ _ _ (decide_eq_true hlt) (Ex.refl _) S41 (.str _)
        · refine ifdF hlt ?_
          repeat tb_start
          exact kS _ _ (decide_eq_false hlt) (Ex.refl _) S41
      intro D42 acc42 B42 H42 e42 S42 hacc42
      obtain ⟨B43, e43, S43, d43⟩ := S42.toData (K := K) (ds := (shortL needs l).map PyData.str) (by unfold shortL; rw [List.map_map]; exact hacc42)
      have Z43 := Z36.re S43 (e42.trans e43)
      clear S42 S43 hacc42 Z36
      have hx43 := Z43.hx
      repeat tb_start
      refine Z43.placesD (by omega) fun D44 B44 H44 e44 Z44 => ?_
      have hx44 := Z44.hx
      repeat tb_start
      refine Z44.bookD fun D45 B45 H45 e45 Z45 h45 => ?_
      have e4345 := e44.trans e45
      replace d6 := d6.up (e42.trans (e43.trans e4345))
      repeat tb_start
      refine lcPureL Z45.S d6 (fun _ => true) (fun z => .int (A.st.hand z)) (by rw [gln]; omega) ?_ ?_
      · intro z xv B46 D46 acc46 H46 C Cs hz e46 S46 hv46 kC kS
        obtain rfl := hv46.str_inv
        have Z46 := Z45.re (S46.perm List.perm_middle.symm) e46
        have hx46 := Z46.hx
        repeat tb_start
        refine ⟨rfl, ?_⟩
        repeat tb_start
        refine Z46.hand (r := row12 z) (by omega) (by rw [hK.rs]; exact row_part needs hz) fun B47 H47 e47 Z47 => ?_
        rw [hand_is12]
        exact kC _ _ _ rfl e47 (Z47.S.perm List.perm_middle) (.int _)
      intro D48 acc48 B48 H48 e48 S48 hacc48
      rw [filter_tt] at hacc48
      obtain ⟨B49, e49, S49, d49⟩ := S48.toData hacc48
      repeat tb_start
      refine new_lst S49 (by show 3 ≤ sizeLine; decide) fun kp H50 S50 => ?_
      have S51 : Ok F0 B49 (FL CF CL CI A ++ (kR kp D44 D45 D48 A.st ++ ((hv, .dK (kvI l)) :: (hL p q m36 cs36 kk36 ++ [(PL, .tbl pl)])))) H50 := Ok.permI S50 [[(kp, .lst [.ref D44, .ref D45, .ref D48])], FL CF CL CI A, [(D44, .dK (kvI (placesOf A.st)))], [(hv, .dK (kvI l))], hL p q m36 cs36 kk36, [(PL, .tbl pl)]] [1, 0, 2, 3, 4, 5]
      have e4549 := e48.trans e49
      have e4249 := e42.trans (e43.trans (e4345.trans e4549))
      have Z51 := Z45.re S51 e4549
      replace d6 := d6.up e4549
      replace dT := dT.up e4249
      replace T14 := T14.up e4249
      replace hx14 := hx14.up e4249
      replace hT36 := hT36.up e4249
      replace d43 := d43.up (e4345.trans e4549)
      replace h45 := h45.up e4549
      clear S48 S49 S50 S51 hacc48 Z43 Z44 Z45 hx43 hx44
      obtain ⟨a43, xs43, ea43, hq43, ha43⟩ := Dp.lst_inv d43
      obtain rfl := V.ref.inj ea43
      have hlen43 := ha43.length
      rw [List.length_map] at hlen43
      repeat tb_start
      refine new_lst Z51.S (by decide) fun D52 H52 S52 => ?_
      refine v_neNilL (S52.sqB hq43) (S52.sqMem (.head _)) ?_
      have Z52 := Z51.re S52.drop (Ex.refl _)
      clear S52 Z51
      repeat tb_start
      have hbsh := hsA.shp
      by_cases hsh : shortL needs l = []
      · rw [if_neg (by rw [hlen43, hsh]; simp)]
        have BG := hK.kwhole N invA hsh
        have tb : (A.st.mDone (.begin_ "whole")).1.isTold = true := by rw [BG.told]; rfl
        have hx52 := Z52.hx
        repeat tb_start
        refine Z52.begin_ (by omega) tb fun A2 B53 H53 e53 Z53 hst2 => ?_
        have hb2 := told_book tb hst2
        rw [← hst2] at BG
        rw [show A.pcs.length = A.st.pcs.length from (Flo.len A).1.symm]
        have hx53 := Z53.hx
        obtain ⟨pw, hpw, _, _, _, hpst⟩ := BG.pc
        have hps : pw.state = "made" := hpst
        repeat tb_start
        refine Z53.state (by omega) hpw fun B54 H54 e54 Z54 => ?_
        rw [hps]
        replace d6 := d6.up (e53.trans e54)
        replace T14 := T14.up (e53.trans e54)
        replace hx14 := hx14.up (e53.trans e54)
        repeat tb_start
        refine ifF (by rw [decide_eq_true rfl]; rfl) ?_
        repeat tb_start
        refine lcPureL Z54.S d6 (fun _ => true) (fun z => .int ((getA l z).getD 0 - needOf needs z)) (by rw [gln]; omega) ?_ ?_
        · intro z xv B46 D46 acc46 H46 C Cs hz e46 S46 hv46 kC kS
          obtain rfl := hv46.str_inv
          have Z46 := Z54.re (S46.perm List.perm_middle.symm) e46
          have hx46 := Z46.hx
          repeat tb_start
          refine ⟨rfl, ?_⟩
          repeat tb_start
          refine Z46.hand (r := row12 z) (by omega) (by rw [BG.rs, hK.rs]; exact row_part needs hz) fun B47 H47 e47 Z47 => ?_
          rw [hand_is12, BG.hand, hK.hand]
          exact kC _ _ _ rfl e47 (Z47.S.perm List.perm_middle) (.int _)
        intro D55 acc55 B55 H55 e55 S55 hacc55
        rw [filter_tt] at hacc55
        obtain ⟨B56, e56, S56, d56⟩ := S55.toData hacc55
        have e5556 := e55.trans e56
        repeat tb_start
        refine lcPureL S56 (d6.up e5556) (fun _ => true) (fun z => .int ((getA l z).getD 0 - needOf needs z)) (by rw [gln]; omega) ?_ ?_
        · intro z xv B46 D46 acc46 H46 C Cs hz e46 S46 hv46 kC kS
          obtain rfl := hv46.str_inv
          have hnz : getA needs z = some (needOf needs z) := by
            obtain ⟨x, hx, rfl⟩ := List.mem_map.mp ((N.mem z).mpr hz)
            rw [getA_nodup hx N.nd, needOf_at N.nd hx]
          repeat tb_start
          refine ⟨rfl, ?_⟩
          repeat tb_start
          refine v_ixDS (kvs := kvI l) (v := .int ((getA l z).getD 0)) (S46.rdMem (.tail _ (List.mem_append_right _ (.tail _ (.tail _ (.head _)))))) (by rw [valV_kvI, hget z hz]; rfl) ?_
          repeat tb_start
          refine v_dictTF S46 (T14.up (e5556.trans e46)) (hx14.up (e5556.trans e46)) N.nd fun D57 H57 S57 => ?_
          repeat tb_start
          refine v_ixDS (kvs := kvI needs) (v := .int (needOf needs z)) (S57.rdMem (.head _)) (by rw [valV_kvI, hnz]; rfl) ?_
          repeat tb_start
          exact kC _ _ _ rfl (Ex.refl _) S57.drop (.int _)
        intro D58 acc58 B58 H58 e58 S58 hacc58
        rw [filter_tt] at hacc58
        obtain ⟨B59, e59, S59, d59⟩ := S58.toData hacc58
        refine v_neSame S59 (d56.up (e58.trans e59)) d59 (n := 3) (Shp.lst fun d hd => by
          obtain ⟨k, _, rfl⟩ := List.mem_map.mp hd
          exact Shp.int) (by decide) ?_
        have e5359 := e53.trans (e54.trans (e5556.trans (e58.trans e59)))
        repeat tb_start
        have S69 : Ok F0 B59 (hL p q m36 cs36 kk36 ++ [(PL, .tbl pl)]) H58 := by
          have h := led_dropA (L1 := FL CF CL CI A2) S59
          exact h.drop.drop.drop
        refine NxE.mk' S69 ?_ ⟨⟨_, _, _, _, _, _, _, _, _, _, _, _, rfl⟩, _, _, _, _, hS36, hT36.up e5359, rfl⟩
        exact e1.trans (e2.trans (eF.trans (e4249.trans e5359)))
      · rw [if_pos (by rw [hlen43]; simpa using hsh)]
        obtain ⟨y, ys, hy⟩ := List.exists_cons_of_ne_nil hsh
        have hyn : y ∈ names12.take n := by
          have : y ∈ shortL needs l := by rw [hy]; exact .head _
          unfold shortL at this
          obtain ⟨x, hx, rfl⟩ := List.mem_map.mp this
          exact hmem x (List.mem_filter.mp hx).1
        have hlack : A.st.lacking (whole12 needs).needs = some y := by
          show A.st.lacking needs = some y
          rw [hK.klack N invA.i, hy]
          rfl
        have hwe : ((whole12 needs).needs.isEmpty && (whole12 needs).steps.isEmpty) = false := by
          show (needs.isEmpty && true) = false
          have := N.len
          cases hc : needs with
          | nil => rw [hc] at this; simp at this; omega
          | cons _ _ => rfl
        have hrsh : Shp 3 (.tuple (rfDs (.lacks y))) := shp_rf fun z e => by
          rcases e with e | e | e <;> cases e
          exact names_ok hyn
        repeat tb_start
        refine rngQ (by decide) (by decide) ?_
        refine lcD (src_rng (n := 2)) Z52.S (fun i acc B1 L1 => ∃ pl', L1 = FL CF CL CI A ++ (kR kp D44 D45 D48 A.st ++ ((hv, .dK (kvI l)) :: (hL p q m36 cs36 kk36 ++ [(PL, .tbl pl')]))) ∧ Ex B49 B1 ∧ TabL B1 lawq pl' ∧ DpAll K B1 acc (List.replicate i (.tuple (rfDs (.lacks y))))) ?_ (fun _ _ _ _ _ _ _ => True.intro) ?_ ?_
        · exact ⟨pl, rfl, Ex.refl _, hT36, .nil⟩
        · rintro i k xv acc B53a B53 L53 D53 H53 hk ⟨pl', rfl, e53a, hT53, hacc53⟩ e53 S53 rfl
          obtain ⟨rfl, hi⟩ := rng_at hk
          have S54 : Ok F0 B53 ((PL, .tbl pl') :: (FL CF CL CI A ++ ([(D53, .lst acc)] ++ (kR kp D44 D45 D48 A.st ++ ((hv, .dK (kvI l)) :: hL p q m36 cs36 kk36))))) H53 := Ok.permI S53 [[(D53, .lst acc)], FL CF CL CI A, kR kp D44 D45 D48 A.st, [(hv, .dK (kvI l))], hL p q m36 cs36 kk36, [(PL, .tbl pl')]] [5, 1, 0, 2, 3, 4]
          repeat tb_start
          refine ⟨rfl, ?_⟩
          repeat tb_start
          refine lamKQ S54 (hT53.up e53) fun B55 pl2 H55 e55 hT55 S55 => ?_
          have S56 : Ok F0 B55 (FL CF CL CI A ++ ([(D53, .lst acc)] ++ (kR kp D44 D45 D48 A.st ++ ((hv, .dK (kvI l)) :: (hL p q m36 cs36 kk36 ++ [(PL, .tbl pl2)]))))) H55 := Ok.permI S55 [[(PL, .tbl pl2)], FL CF CL CI A, [(D53, .lst acc)], kR kp D44 D45 D48 A.st, [(hv, .dK (kvI l))], hL p q m36 cs36 kk36] [1, 2, 3, 4, 5, 0]
          have Z56 := Z52.re S56 (e53a.trans (e53.trans e55))
          refine kindTQ (r := .lacks y) Z56.S k3 (fun E Q' kk => ?_) fun B57 H57 t57 e57 S57 h57 => ?_
          · have hx56 := Z56.hx
            repeat tb_start
            exact ⟨B55, A, "whole", .lacks y, by rw [hfA], Z56.fs (by omega), .inr ⟨whole12 needs, by rw [show A.rs = rs12 n needs from hK.rs]; exact row_whole needs n, .inr ⟨hwe, y, hlack, rfl⟩⟩, RefQ.ofG Z56 kk⟩
          refine Acc.mk (S57.perm List.perm_middle) ?_ ⟨pl2, rfl, e53a.trans (e53.trans (e55.trans e57)), hT55.up e57, ?_⟩
          · have := hacc53.length
            rw [List.length_replicate] at this
            rw [sizeLine_eq]
            omega
          · rw [List.replicate_succ', ]
            exact (hacc53.up (e53.trans (e55.trans e57))).append (.cons h57 .nil)
        rintro acc B58 L58 D58 H58 ⟨pl3, rfl, e58, hT58, hacc58⟩ S58
        rw [List.length_range] at hacc58
        obtain ⟨B59, e59, S59, d59⟩ := S58.toData hacc58
        replace d43 := d43.up (e58.trans e59)
        repeat tb_start
        refine v_ixDL (j := 0) S59 d43 rfl (by rw [hy]; rfl) fun u hu => ?_
        obtain rfl := hu.str_inv
        repeat tb_start
        refine new_tupD (K := K) S59 (ds := rfDs (.lacks y)) (.cons (.str _) (.cons (.str _) .nil)) (by show 2 ≤ 1000; decide) fun t60 B60 H60 e60 S60 h60 => ?_
        repeat tb_start
        refine new_lst S60 (by show 1 ≤ sizeLine; decide) fun l61 H61 S61 => ?_
        repeat tb_start
        refine v_rep S61 (S61.own _ (.head _)).1 (by decide) (by decide) (by show 1 ≤ 100; decide) fun l62 H62 S62 => ?_
        obtain ⟨B63, e63, S63, h63⟩ := S62.toData (K := K) (ds := List.replicate 2 (.tuple (rfDs (.lacks y)))) (.cons h60 (.cons h60 .nil))
        replace S63 := S63.drop
        refine v_neSame S63 (d59.up (e60.trans e63)) h63 (n := 4) (Shp.lst fun d hd => by rw [List.eq_of_mem_replicate hd]; exact hrsh) (by decide) ?_
        have e5863 := e59.trans (e60.trans e63)
        have Z63 : Flo K CP CF CL CI F0 B63 fl A (kR kp D44 D45 D48 A.st ++ ((hv, .dK (kvI l)) :: (hL p q m36 cs36 kk36 ++ [(PL, .tbl pl3)]))) H62 := Z52.re S63 (e58.trans e5863)
        clear S58 S59 S60 S61 S62 S63 d59 h60 h63 hacc58
        replace d6 := d6.up (e58.trans e5863)
        replace d49 := d49.up (e58.trans e5863)
        replace h45 := h45.up (e58.trans e5863)
        have hx63 := Z63.hx
        repeat tb_start
        refine Z63.placesD (by omega) fun D64 B64 H64 e64 Z64 => ?_
        have hx64 := Z64.hx
        have hne : D64 ≠ D44 := ne2 (Z64.S.perm List.perm_middle) (List.mem_append_right _ (.tail _ (.head _)))
        repeat tb_start
        refine Z64.bookD fun D65 B65 H65 e65 Z65 h65 => ?_
        replace d6 := d6.up (e64.trans e65)
        repeat tb_start
        refine lcPureL Z65.S d6 (fun _ => true) (fun z => .int (A.st.hand z)) (by rw [gln]; omega) ?_ ?_
        · intro z xv B46 D46 acc46 H46 C Cs hz e46 S46 hv46 kC kS
          obtain rfl := hv46.str_inv
          have Z46 := Z65.re (S46.perm List.perm_middle.symm) e46
          have hx46 := Z46.hx
          repeat tb_start
          refine ⟨rfl, ?_⟩
          repeat tb_start
          refine Z46.hand (r := row12 z) (by omega) (by rw [hK.rs]; exact row_part needs hz) fun B47 H47 e47 Z47 => ?_
          rw [hand_is12]
          exact kC _ _ _ rfl e47 (Z47.S.perm List.perm_middle) (.int _)
        intro D66 acc66 B66 H66 e66 S66 hacc66
        rw [filter_tt] at hacc66
        obtain ⟨B67, e67, S67, d67⟩ := S66.toData hacc66
        repeat tb_start
        refine new_lst S67 (by show 3 ≤ sizeLine; decide) fun l68 H68 S68 => ?_
        have e6467 := e64.trans (e65.trans (e66.trans e67))
        repeat tb_start
        refine v_neMix (S68.sqMem (.head _)) (S68.sqMem (.tail _ (List.mem_append_right _ (.tail _ (.head _))))) rfl (ev3 (ev_pl S68 (.tail _ (List.mem_append_right _ (.head _))) (.tail _ (List.mem_append_right _ (.tail _ (.tail _ (.head _))))) hne) (ev_dp ((h65.up (e66.trans e67)).up S68.ex) ((h45.up e6467).up S68.ex) hbsh) (ev_dp (n := 3) (d67.up S68.ex) ((d49.up e6467).up S68.ex) (Shp.lst fun d hd => by
          obtain ⟨k, _, rfl⟩ := List.mem_map.mp hd
          exact Shp.int))) ?_
        repeat tb_start
        have S69 : Ok F0 B67 (hL p q m36 cs36 kk36 ++ [(PL, .tbl pl3)]) H68 := by
          have h := led_dropA (L1 := (l68, .lst [.ref D64, .ref D65, .ref D66]) :: FL CF CL CI A) (L2 := (D64, .dK (kvI (placesOf A.st))) :: (kR kp D44 D45 D48 A.st ++ ((hv, .dK (kvI l)) :: (hL p q m36 cs36 kk36 ++ [(PL, .tbl pl3)])))) S68
          exact h.drop.drop.drop.drop
        refine NxE.mk' S69 ?_ ⟨⟨_, _, _, _, _, _, _, _, _, _, _, _, rfl⟩, _, _, _, _, hS36, hT58.up (e5863.trans e6467), rfl⟩
        exact e1.trans (e2.trans (eF.trans (e4249.trans (e58.trans (e5863.trans e6467)))))
    · rintro σ B2 L1 H2 ⟨⟨_, _, _, _, _, _, _, _, _, _, _, _, rfl⟩, pl, m, cs, kk, hS, hT, rfl⟩ e1 S2
      repeat tb_start
      exact kend _
end
end LW

namespace LW
open PySem PySem.Spec PyProof.Rows L2 WK PM
/-- where the table of the code objects of a def lies -/
def ptIn (K : PySem.W.Frag) (x : Str) : Addr := match PySem.W.tabIn K x with
  | some (_, P) => P
  | none => 0
theorem all_mk {l : PySem.W.OpenLaw} {w : World} {K : PySem.W.Frag} {h : Heap} {mg : Str → Option Value} {fa : Addr} (X : K.In h) (G : h.Ns mainGlobals mg) (hfa : mg "law" = some (.ref fa))
    {f__law_mix : Addr} {od__law_mix an__law_mix : Option Addr} {sl__law_mix : Array (Option Value)} {oc__law_mix kV__law_mix dc__law_mix pm__law_mix cd__law_mix ct__law_mix : Value}
    {f__law_next : Addr} {od__law_next an__law_next : Option Addr} {sl__law_next : Array (Option Value)} {oc__law_next kV__law_next dc__law_next pm__law_next cd__law_next ct__law_next : Value}
    {f_is_name : Addr} {od_is_name an_is_name : Option Addr} {sl_is_name : Array (Option Value)} {oc_is_name kV_is_name dc_is_name pm_is_name cd_is_name ct_is_name : Value}
    {f_need_many : Addr} {od_need_many an_need_many : Option Addr} {sl_need_many : Array (Option Value)} {oc_need_many kV_need_many dc_need_many pm_need_many cd_need_many ct_need_many : Value}
    {f_places : Addr} {od_places an_places : Option Addr} {sl_places : Array (Option Value)} {oc_places kV_places dc_places pm_places cd_places ct_places : Value}
    {f_law : Addr} {od_law an_law : Option Addr} {sl_law : Array (Option Value)} {oc_law kV_law dc_law pm_law ct_law : Value}
    {ca_law : Addr}
    {f__law_kind : Addr} {od__law_kind an__law_kind : Option Addr} {sl__law_kind : Array (Option Value)} {oc__law_kind kV__law_kind dc__law_kind pm__law_kind cd__law_kind ct__law_kind : Value}
    {C_Parts : Addr}
    {f_Parts_is_row : Addr} {od_Parts_is_row an_Parts_is_row : Option Addr} {sl_Parts_is_row : Array (Option Value)} {oc_Parts_is_row kV_Parts_is_row dc_Parts_is_row pm_Parts_is_row cd_Parts_is_row ct_Parts_is_row : Value}
    {f_Parts_led_to : Addr} {od_Parts_led_to an_Parts_led_to : Option Addr} {sl_Parts_led_to : Array (Option Value)} {oc_Parts_led_to kV_Parts_led_to dc_Parts_led_to pm_Parts_led_to cd_Parts_led_to ct_Parts_led_to : Value}
    {f_Parts___init__ : Addr} {od_Parts___init__ an_Parts___init__ : Option Addr} {sl_Parts___init__ : Array (Option Value)} {oc_Parts___init__ kV_Parts___init__ dc_Parts___init__ pm_Parts___init__ cd_Parts___init__ ct_Parts___init__ : Value}
    {f_Parts_needs_of : Addr} {od_Parts_needs_of an_Parts_needs_of : Option Addr} {sl_Parts_needs_of : Array (Option Value)} {oc_Parts_needs_of kV_Parts_needs_of dc_Parts_needs_of pm_Parts_needs_of cd_Parts_needs_of ct_Parts_needs_of : Value}
    {f_Parts_steps_of : Addr} {od_Parts_steps_of an_Parts_steps_of : Option Addr} {sl_Parts_steps_of : Array (Option Value)} {oc_Parts_steps_of kV_Parts_steps_of dc_Parts_steps_of pm_Parts_steps_of cd_Parts_steps_of ct_Parts_steps_of : Value}
    {f_Parts_is_bought : Addr} {od_Parts_is_bought an_Parts_is_bought : Option Addr} {sl_Parts_is_bought : Array (Option Value)} {oc_Parts_is_bought kV_Parts_is_bought dc_Parts_is_bought pm_Parts_is_bought cd_Parts_is_bought ct_Parts_is_bought : Value}
    {f_Parts_need_part : Addr} {od_Parts_need_part an_Parts_need_part : Option Addr} {sl_Parts_need_part : Array (Option Value)} {oc_Parts_need_part kV_Parts_need_part dc_Parts_need_part pm_Parts_need_part cd_Parts_need_part ct_Parts_need_part : Value}
    {C_Floor : Addr}
    {f_Floor___init__ : Addr} {od_Floor___init__ an_Floor___init__ : Option Addr} {sl_Floor___init__ : Array (Option Value)} {oc_Floor___init__ kV_Floor___init__ dc_Floor___init__ pm_Floor___init__ cd_Floor___init__ ct_Floor___init__ : Value}
    {f_Floor_piece : Addr} {od_Floor_piece an_Floor_piece : Option Addr} {sl_Floor_piece : Array (Option Value)} {oc_Floor_piece kV_Floor_piece dc_Floor_piece pm_Floor_piece cd_Floor_piece ct_Floor_piece : Value}
    {f_Floor_work : Addr} {od_Floor_work an_Floor_work : Option Addr} {sl_Floor_work : Array (Option Value)} {oc_Floor_work kV_Floor_work dc_Floor_work pm_Floor_work cd_Floor_work ct_Floor_work : Value}
    {f_Floor_test : Addr} {od_Floor_test an_Floor_test : Option Addr} {sl_Floor_test : Array (Option Value)} {oc_Floor_test kV_Floor_test dc_Floor_test pm_Floor_test cd_Floor_test ct_Floor_test : Value}
    {f_Floor_scrap : Addr} {od_Floor_scrap an_Floor_scrap : Option Addr} {sl_Floor_scrap : Array (Option Value)} {oc_Floor_scrap kV_Floor_scrap dc_Floor_scrap pm_Floor_scrap cd_Floor_scrap ct_Floor_scrap : Value}
    {f_Floor_state_of : Addr} {od_Floor_state_of an_Floor_state_of : Option Addr} {sl_Floor_state_of : Array (Option Value)} {oc_Floor_state_of kV_Floor_state_of dc_Floor_state_of pm_Floor_state_of cd_Floor_state_of ct_Floor_state_of : Value}
    {f_Floor_lots_for : Addr} {od_Floor_lots_for an_Floor_lots_for : Option Addr} {sl_Floor_lots_for : Array (Option Value)} {oc_Floor_lots_for kV_Floor_lots_for dc_Floor_lots_for pm_Floor_lots_for cd_Floor_lots_for ct_Floor_lots_for : Value}
    {f_Floor_pieces_for : Addr} {od_Floor_pieces_for an_Floor_pieces_for : Option Addr} {sl_Floor_pieces_for : Array (Option Value)} {oc_Floor_pieces_for kV_Floor_pieces_for dc_Floor_pieces_for pm_Floor_pieces_for cd_Floor_pieces_for ct_Floor_pieces_for : Value}
    {f_Floor_hold : Addr} {od_Floor_hold an_Floor_hold : Option Addr} {sl_Floor_hold : Array (Option Value)} {oc_Floor_hold kV_Floor_hold dc_Floor_hold pm_Floor_hold cd_Floor_hold ct_Floor_hold : Value}
    {f_Floor_put_in : Addr} {od_Floor_put_in an_Floor_put_in : Option Addr} {sl_Floor_put_in : Array (Option Value)} {oc_Floor_put_in kV_Floor_put_in dc_Floor_put_in pm_Floor_put_in cd_Floor_put_in ct_Floor_put_in : Value}
    {f_Floor_begin : Addr} {od_Floor_begin an_Floor_begin : Option Addr} {sl_Floor_begin : Array (Option Value)} {oc_Floor_begin kV_Floor_begin dc_Floor_begin pm_Floor_begin cd_Floor_begin ct_Floor_begin : Value}
    {f_Floor_buy : Addr} {od_Floor_buy an_Floor_buy : Option Addr} {sl_Floor_buy : Array (Option Value)} {oc_Floor_buy kV_Floor_buy dc_Floor_buy pm_Floor_buy cd_Floor_buy ct_Floor_buy : Value}
    {f_Floor_at_hand : Addr} {od_Floor_at_hand an_Floor_at_hand : Option Addr} {sl_Floor_at_hand : Array (Option Value)} {oc_Floor_at_hand kV_Floor_at_hand dc_Floor_at_hand pm_Floor_at_hand cd_Floor_at_hand ct_Floor_at_hand : Value}
    {f_Floor_book_of : Addr} {od_Floor_book_of an_Floor_book_of : Option Addr} {sl_Floor_book_of : Array (Option Value)} {oc_Floor_book_of kV_Floor_book_of dc_Floor_book_of pm_Floor_book_of cd_Floor_book_of ct_Floor_book_of : Value}
    {f_Floor_lot : Addr} {od_Floor_lot an_Floor_lot : Option Addr} {sl_Floor_lot : Array (Option Value)} {oc_Floor_lot kV_Floor_lot dc_Floor_lot pm_Floor_lot cd_Floor_lot ct_Floor_lot : Value}
    {C_Lot : Addr}
    {f_Lot___init__ : Addr} {od_Lot___init__ an_Lot___init__ : Option Addr} {sl_Lot___init__ : Array (Option Value)} {oc_Lot___init__ kV_Lot___init__ dc_Lot___init__ pm_Lot___init__ cd_Lot___init__ ct_Lot___init__ : Value}
    {C_Piece : Addr}
    {f_Piece___init__ : Addr} {od_Piece___init__ an_Piece___init__ : Option Addr} {sl_Piece___init__ : Array (Option Value)} {oc_Piece___init__ kV_Piece___init__ dc_Piece___init__ pm_Piece___init__ cd_Piece___init__ ct_Piece___init__ : Value}
    {tk_MOST_SIGNS : Tok}
    {tk_MOST_LOT : Tok}
    {tk_MOST_LEAD : Tok}
    {tk_MOST_NEED : Tok}
    {tk_MOST_STEPS : Tok}
    {tk_MACHINES : Tok}
    {tk_MOST_MINUTES : Tok}
    {tk_MOST_PARTS : Tok}
    {tk_MOST_LED : Tok}
    {tk_MOST_RATE : Tok}
    {tk_MOST_MANY : Tok}
    {tk_MOST_PRICE : Tok}
    {tk_LETTERS : Tok}
    {tk_MAKING : Tok}
    {tk_MADE : Tok}
    {tk_STOCK : Tok}
    {tk_BAD : Tok}
    {tk_SCRAP : Tok}
    {tk_WITHIN : Tok}
    {tk_SOLD : Tok}
    {tk_STRIPPED : Tok}
    {tk_LOTS : Tok}
    {tk_WORK : Tok}
    {tk_LOST : Tok}
    {T_HOUSE : Addr} {to_HOUSE : Option Addr} {tn_HOUSE : Nat} {ts_HOUSE : Array (Option Value)} {tt_HOUSE_0 : Tok} {tt_HOUSE_1 : Tok} {tt_HOUSE_2 : Tok} {tt_HOUSE_3 : Tok}
    {T_PLACES : Addr} {es_PLACES : Array DictEntry} {ne_PLACES : Nat} {dt_PLACES_making : Tok} {dt_PLACES_made : Tok} {dt_PLACES_bad : Tok} {dt_PLACES_stock : Tok} {dt_PLACES_sold : Tok} {dt_PLACES_scrap : Tok}
    {C_BadParts : Addr}
    {C_BadPart : Addr}
    {C_BadCount : Addr}
    {C_Lacks : Addr}
    {C_BadPiece : Addr}
    {C_BadLot : Addr}
    {C_BadText : Addr}
    {C_KinError : Addr}
    {nm_BadPart q_BadPart : Str} {N_BadPart : Addr} {bs_BadPart bm_BadPart sub_BadPart : List Value} {sn_BadPart : List Str} {ab_BadPart : Bool} {co_BadPart : Option Bool} {dd_BadPart : Option Addr} {x0_BadPart x1_BadPart x2_BadPart x3_BadPart x5_BadPart : Option Value}
    {f_BadPart___init__ : Addr} {od_BadPart___init__ an_BadPart___init__ : Option Addr} {sl_BadPart___init__ : Array (Option Value)} {oc_BadPart___init__ kV_BadPart___init__ dc_BadPart___init__ pm_BadPart___init__ cd_BadPart___init__ ct_BadPart___init__ : Value}
    {nm_Lacks q_Lacks : Str} {N_Lacks : Addr} {bs_Lacks bm_Lacks sub_Lacks : List Value} {sn_Lacks : List Str} {ab_Lacks : Bool} {co_Lacks : Option Bool} {dd_Lacks : Option Addr} {x0_Lacks x1_Lacks x2_Lacks x3_Lacks x5_Lacks : Option Value}
    {f_Lacks___init__ : Addr} {od_Lacks___init__ an_Lacks___init__ : Option Addr} {sl_Lacks___init__ : Array (Option Value)} {oc_Lacks___init__ kV_Lacks___init__ dc_Lacks___init__ pm_Lacks___init__ cd_Lacks___init__ ct_Lacks___init__ : Value}
    {nm_BadPiece q_BadPiece : Str} {N_BadPiece : Addr} {bs_BadPiece bm_BadPiece sub_BadPiece : List Value} {sn_BadPiece : List Str} {ab_BadPiece : Bool} {co_BadPiece : Option Bool} {dd_BadPiece : Option Addr} {x0_BadPiece x1_BadPiece x2_BadPiece x3_BadPiece x5_BadPiece : Option Value}
    {f_BadPiece___init__ : Addr} {od_BadPiece___init__ an_BadPiece___init__ : Option Addr} {sl_BadPiece___init__ : Array (Option Value)} {oc_BadPiece___init__ kV_BadPiece___init__ dc_BadPiece___init__ pm_BadPiece___init__ cd_BadPiece___init__ ct_BadPiece___init__ : Value}
    (a__law_mix : PySem.W.nsIn K mainGlobals "_law_mix" = some (some (.ref f__law_mix)))
    (l__law_mix : K.lookup f__law_mix = some ⟨oc__law_mix, od__law_mix, .func (PySem.W.fnOf "_law_mix" "_law_mix" (defArgs s__law_mix) (defBody s__law_mix) (defScope s__law_mix) .none kV__law_mix dc__law_mix pm__law_mix an__law_mix cd__law_mix ct__law_mix), sl__law_mix⟩)
    (c__law_mix : PySem.W.codeIn K cd__law_mix "_law_mix" = true)
    (k__law_mix : PySem.W.keepIn K (.ref f__law_mix) = true)
    (a__law_next : PySem.W.nsIn K mainGlobals "_law_next" = some (some (.ref f__law_next)))
    (l__law_next : K.lookup f__law_next = some ⟨oc__law_next, od__law_next, .func (PySem.W.fnOf "_law_next" "_law_next" (defArgs s__law_next) (defBody s__law_next) (defScope s__law_next) .none kV__law_next dc__law_next pm__law_next an__law_next cd__law_next ct__law_next), sl__law_next⟩)
    (c__law_next : PySem.W.codeIn K cd__law_next "_law_next" = true)
    (k__law_next : PySem.W.keepIn K (.ref f__law_next) = true)
    (a_is_name : PySem.W.nsIn K mainGlobals "is_name" = some (some (.ref f_is_name)))
    (l_is_name : K.lookup f_is_name = some ⟨oc_is_name, od_is_name, .func (PySem.W.fnOf "is_name" "is_name" (defArgs s_is_name) (defBody s_is_name) (defScope s_is_name) .none kV_is_name dc_is_name pm_is_name an_is_name cd_is_name ct_is_name), sl_is_name⟩)
    (c_is_name : PySem.W.codeIn K cd_is_name "is_name" = true)
    (k_is_name : PySem.W.keepIn K (.ref f_is_name) = true)
    (a_need_many : PySem.W.nsIn K mainGlobals "need_many" = some (some (.ref f_need_many)))
    (l_need_many : K.lookup f_need_many = some ⟨oc_need_many, od_need_many, .func (PySem.W.fnOf "need_many" "need_many" (defArgs s_need_many) (defBody s_need_many) (defScope s_need_many) .none kV_need_many dc_need_many pm_need_many an_need_many cd_need_many ct_need_many), sl_need_many⟩)
    (c_need_many : PySem.W.codeIn K cd_need_many "need_many" = true)
    (k_need_many : PySem.W.keepIn K (.ref f_need_many) = true)
    (a_places : PySem.W.nsIn K mainGlobals "places" = some (some (.ref f_places)))
    (l_places : K.lookup f_places = some ⟨oc_places, od_places, .func (PySem.W.fnOf "places" "places" (defArgs s_places) (defBody s_places) (defScope s_places) .none kV_places dc_places pm_places an_places cd_places ct_places), sl_places⟩)
    (c_places : PySem.W.codeIn K cd_places "places" = true)
    (k_places : PySem.W.keepIn K (.ref f_places) = true)
    (a_law : PySem.W.nsIn K mainGlobals "law" = some (some (.ref f_law)))
    (l_law : K.lookup f_law = some ⟨oc_law, od_law, .func (PySem.W.fnOf "law" "law" (defArgs s_law) (defBody s_law) (defScope s_law) .none kV_law dc_law pm_law an_law (.ref ca_law) ct_law), sl_law⟩)
    (c_law : PySem.W.codeIn K (.ref ca_law) "law" = true)
    (tb_law : PySem.W.tabIn K "law" = some (ca_law, (ptIn K "law")))
    (nt_law : K.lookup (ptIn K "law") = none)
    (k_law : PySem.W.keepIn K (.ref f_law) = true)
    (a__law_kind : PySem.W.nsIn K mainGlobals "_law_kind" = some (some (.ref f__law_kind)))
    (l__law_kind : K.lookup f__law_kind = some ⟨oc__law_kind, od__law_kind, .func (PySem.W.fnOf "_law_kind" "_law_kind" (defArgs s__law_kind) (defBody s__law_kind) (defScope s__law_kind) .none kV__law_kind dc__law_kind pm__law_kind an__law_kind cd__law_kind ct__law_kind), sl__law_kind⟩)
    (c__law_kind : PySem.W.codeIn K cd__law_kind "_law_kind" = true)
    (k__law_kind : PySem.W.keepIn K (.ref f__law_kind) = true)
    (aC_Parts : PySem.W.nsIn K mainGlobals "Parts" = some (some (.ref C_Parts)))
    (a_Parts_is_row : PySem.W.findIn K (.ref C_Parts) "is_row" = some (some (.ref f_Parts_is_row)))
    (i_Parts_is_row : PySem.W.isFn K (.ref f_Parts_is_row) = true)
    (l_Parts_is_row : K.lookup f_Parts_is_row = some ⟨oc_Parts_is_row, od_Parts_is_row, .func (PySem.W.fnOf "is_row" "Parts.is_row" (defArgs s_Parts_is_row) (defBody s_Parts_is_row) (defScope s_Parts_is_row) .none kV_Parts_is_row dc_Parts_is_row pm_Parts_is_row an_Parts_is_row cd_Parts_is_row ct_Parts_is_row), sl_Parts_is_row⟩)
    (c_Parts_is_row : PySem.W.codeIn K cd_Parts_is_row "Parts.is_row" = true)
    (k_Parts_is_row : PySem.W.keepIn K (.ref f_Parts_is_row) = true)
    (a_Parts_led_to : PySem.W.findIn K (.ref C_Parts) "led_to" = some (some (.ref f_Parts_led_to)))
    (i_Parts_led_to : PySem.W.isFn K (.ref f_Parts_led_to) = true)
    (l_Parts_led_to : K.lookup f_Parts_led_to = some ⟨oc_Parts_led_to, od_Parts_led_to, .func (PySem.W.fnOf "led_to" "Parts.led_to" (defArgs s_Parts_led_to) (defBody s_Parts_led_to) (defScope s_Parts_led_to) .none kV_Parts_led_to dc_Parts_led_to pm_Parts_led_to an_Parts_led_to cd_Parts_led_to ct_Parts_led_to), sl_Parts_led_to⟩)
    (c_Parts_led_to : PySem.W.codeIn K cd_Parts_led_to "Parts.led_to" = true)
    (k_Parts_led_to : PySem.W.keepIn K (.ref f_Parts_led_to) = true)
    (a_Parts___init__ : PySem.W.findIn K (.ref C_Parts) "__init__" = some (some (.ref f_Parts___init__)))
    (i_Parts___init__ : PySem.W.isFn K (.ref f_Parts___init__) = true)
    (l_Parts___init__ : K.lookup f_Parts___init__ = some ⟨oc_Parts___init__, od_Parts___init__, .func (PySem.W.fnOf "__init__" "Parts.__init__" (defArgs s_Parts___init__) (defBody s_Parts___init__) (defScope s_Parts___init__) .none kV_Parts___init__ dc_Parts___init__ pm_Parts___init__ an_Parts___init__ cd_Parts___init__ ct_Parts___init__), sl_Parts___init__⟩)
    (c_Parts___init__ : PySem.W.codeIn K cd_Parts___init__ "Parts.__init__" = true)
    (k_Parts___init__ : PySem.W.keepIn K (.ref f_Parts___init__) = true)
    (a_Parts_needs_of : PySem.W.findIn K (.ref C_Parts) "needs_of" = some (some (.ref f_Parts_needs_of)))
    (i_Parts_needs_of : PySem.W.isFn K (.ref f_Parts_needs_of) = true)
    (l_Parts_needs_of : K.lookup f_Parts_needs_of = some ⟨oc_Parts_needs_of, od_Parts_needs_of, .func (PySem.W.fnOf "needs_of" "Parts.needs_of" (defArgs s_Parts_needs_of) (defBody s_Parts_needs_of) (defScope s_Parts_needs_of) .none kV_Parts_needs_of dc_Parts_needs_of pm_Parts_needs_of an_Parts_needs_of cd_Parts_needs_of ct_Parts_needs_of), sl_Parts_needs_of⟩)
    (c_Parts_needs_of : PySem.W.codeIn K cd_Parts_needs_of "Parts.needs_of" = true)
    (k_Parts_needs_of : PySem.W.keepIn K (.ref f_Parts_needs_of) = true)
    (a_Parts_steps_of : PySem.W.findIn K (.ref C_Parts) "steps_of" = some (some (.ref f_Parts_steps_of)))
    (i_Parts_steps_of : PySem.W.isFn K (.ref f_Parts_steps_of) = true)
    (l_Parts_steps_of : K.lookup f_Parts_steps_of = some ⟨oc_Parts_steps_of, od_Parts_steps_of, .func (PySem.W.fnOf "steps_of" "Parts.steps_of" (defArgs s_Parts_steps_of) (defBody s_Parts_steps_of) (defScope s_Parts_steps_of) .none kV_Parts_steps_of dc_Parts_steps_of pm_Parts_steps_of an_Parts_steps_of cd_Parts_steps_of ct_Parts_steps_of), sl_Parts_steps_of⟩)
    (c_Parts_steps_of : PySem.W.codeIn K cd_Parts_steps_of "Parts.steps_of" = true)
    (k_Parts_steps_of : PySem.W.keepIn K (.ref f_Parts_steps_of) = true)
    (a_Parts_is_bought : PySem.W.findIn K (.ref C_Parts) "is_bought" = some (some (.ref f_Parts_is_bought)))
    (i_Parts_is_bought : PySem.W.isFn K (.ref f_Parts_is_bought) = true)
    (l_Parts_is_bought : K.lookup f_Parts_is_bought = some ⟨oc_Parts_is_bought, od_Parts_is_bought, .func (PySem.W.fnOf "is_bought" "Parts.is_bought" (defArgs s_Parts_is_bought) (defBody s_Parts_is_bought) (defScope s_Parts_is_bought) .none kV_Parts_is_bought dc_Parts_is_bought pm_Parts_is_bought an_Parts_is_bought cd_Parts_is_bought ct_Parts_is_bought), sl_Parts_is_bought⟩)
    (c_Parts_is_bought : PySem.W.codeIn K cd_Parts_is_bought "Parts.is_bought" = true)
    (k_Parts_is_bought : PySem.W.keepIn K (.ref f_Parts_is_bought) = true)
    (a_Parts_need_part : PySem.W.findIn K (.ref C_Parts) "need_part" = some (some (.ref f_Parts_need_part)))
    (i_Parts_need_part : PySem.W.isFn K (.ref f_Parts_need_part) = true)
    (l_Parts_need_part : K.lookup f_Parts_need_part = some ⟨oc_Parts_need_part, od_Parts_need_part, .func (PySem.W.fnOf "need_part" "Parts.need_part" (defArgs s_Parts_need_part) (defBody s_Parts_need_part) (defScope s_Parts_need_part) .none kV_Parts_need_part dc_Parts_need_part pm_Parts_need_part an_Parts_need_part cd_Parts_need_part ct_Parts_need_part), sl_Parts_need_part⟩)
    (c_Parts_need_part : PySem.W.codeIn K cd_Parts_need_part "Parts.need_part" = true)
    (k_Parts_need_part : PySem.W.keepIn K (.ref f_Parts_need_part) = true)
    (pg_Parts : PySem.W.plainGet K C_Parts Str.empty = true)
    (hd_Parts : PySem.W.hasDictIn K C_Parts = true)
    (po_Parts : PySem.W.plainOver K C_Parts = true)
    (sa_Parts : PySem.W.findIn K (.ref C_Parts) "__setattr__" = some (some (.builtin "object.__setattr__")))
    (mk_Parts : PySem.W.makesIn K C_Parts = true)
    (kc_Parts : PySem.W.keepIn K (.ref C_Parts) = true)
    (n_Parts_rows : PySem.W.findIn K (.ref C_Parts) "rows" = some none)
    (n_Parts_led : PySem.W.findIn K (.ref C_Parts) "led" = some none)
    (aC_Floor : PySem.W.nsIn K mainGlobals "Floor" = some (some (.ref C_Floor)))
    (a_Floor___init__ : PySem.W.findIn K (.ref C_Floor) "__init__" = some (some (.ref f_Floor___init__)))
    (i_Floor___init__ : PySem.W.isFn K (.ref f_Floor___init__) = true)
    (l_Floor___init__ : K.lookup f_Floor___init__ = some ⟨oc_Floor___init__, od_Floor___init__, .func (PySem.W.fnOf "__init__" "Floor.__init__" (defArgs s_Floor___init__) (defBody s_Floor___init__) (defScope s_Floor___init__) .none kV_Floor___init__ dc_Floor___init__ pm_Floor___init__ an_Floor___init__ cd_Floor___init__ ct_Floor___init__), sl_Floor___init__⟩)
    (c_Floor___init__ : PySem.W.codeIn K cd_Floor___init__ "Floor.__init__" = true)
    (k_Floor___init__ : PySem.W.keepIn K (.ref f_Floor___init__) = true)
    (a_Floor_piece : PySem.W.findIn K (.ref C_Floor) "piece" = some (some (.ref f_Floor_piece)))
    (i_Floor_piece : PySem.W.isFn K (.ref f_Floor_piece) = true)
    (l_Floor_piece : K.lookup f_Floor_piece = some ⟨oc_Floor_piece, od_Floor_piece, .func (PySem.W.fnOf "piece" "Floor.piece" (defArgs s_Floor_piece) (defBody s_Floor_piece) (defScope s_Floor_piece) .none kV_Floor_piece dc_Floor_piece pm_Floor_piece an_Floor_piece cd_Floor_piece ct_Floor_piece), sl_Floor_piece⟩)
    (c_Floor_piece : PySem.W.codeIn K cd_Floor_piece "Floor.piece" = true)
    (k_Floor_piece : PySem.W.keepIn K (.ref f_Floor_piece) = true)
    (a_Floor_work : PySem.W.findIn K (.ref C_Floor) "work" = some (some (.ref f_Floor_work)))
    (i_Floor_work : PySem.W.isFn K (.ref f_Floor_work) = true)
    (l_Floor_work : K.lookup f_Floor_work = some ⟨oc_Floor_work, od_Floor_work, .func (PySem.W.fnOf "work" "Floor.work" (defArgs s_Floor_work) (defBody s_Floor_work) (defScope s_Floor_work) .none kV_Floor_work dc_Floor_work pm_Floor_work an_Floor_work cd_Floor_work ct_Floor_work), sl_Floor_work⟩)
    (c_Floor_work : PySem.W.codeIn K cd_Floor_work "Floor.work" = true)
    (k_Floor_work : PySem.W.keepIn K (.ref f_Floor_work) = true)
    (a_Floor_test : PySem.W.findIn K (.ref C_Floor) "test" = some (some (.ref f_Floor_test)))
    (i_Floor_test : PySem.W.isFn K (.ref f_Floor_test) = true)
    (l_Floor_test : K.lookup f_Floor_test = some ⟨oc_Floor_test, od_Floor_test, .func (PySem.W.fnOf "test" "Floor.test" (defArgs s_Floor_test) (defBody s_Floor_test) (defScope s_Floor_test) .none kV_Floor_test dc_Floor_test pm_Floor_test an_Floor_test cd_Floor_test ct_Floor_test), sl_Floor_test⟩)
    (c_Floor_test : PySem.W.codeIn K cd_Floor_test "Floor.test" = true)
    (k_Floor_test : PySem.W.keepIn K (.ref f_Floor_test) = true)
    (a_Floor_scrap : PySem.W.findIn K (.ref C_Floor) "scrap" = some (some (.ref f_Floor_scrap)))
    (i_Floor_scrap : PySem.W.isFn K (.ref f_Floor_scrap) = true)
    (l_Floor_scrap : K.lookup f_Floor_scrap = some ⟨oc_Floor_scrap, od_Floor_scrap, .func (PySem.W.fnOf "scrap" "Floor.scrap" (defArgs s_Floor_scrap) (defBody s_Floor_scrap) (defScope s_Floor_scrap) .none kV_Floor_scrap dc_Floor_scrap pm_Floor_scrap an_Floor_scrap cd_Floor_scrap ct_Floor_scrap), sl_Floor_scrap⟩)
    (c_Floor_scrap : PySem.W.codeIn K cd_Floor_scrap "Floor.scrap" = true)
    (k_Floor_scrap : PySem.W.keepIn K (.ref f_Floor_scrap) = true)
    (a_Floor_state_of : PySem.W.findIn K (.ref C_Floor) "state_of" = some (some (.ref f_Floor_state_of)))
    (i_Floor_state_of : PySem.W.isFn K (.ref f_Floor_state_of) = true)
    (l_Floor_state_of : K.lookup f_Floor_state_of = some ⟨oc_Floor_state_of, od_Floor_state_of, .func (PySem.W.fnOf "state_of" "Floor.state_of" (defArgs s_Floor_state_of) (defBody s_Floor_state_of) (defScope s_Floor_state_of) .none kV_Floor_state_of dc_Floor_state_of pm_Floor_state_of an_Floor_state_of cd_Floor_state_of ct_Floor_state_of), sl_Floor_state_of⟩)
    (c_Floor_state_of : PySem.W.codeIn K cd_Floor_state_of "Floor.state_of" = true)
    (k_Floor_state_of : PySem.W.keepIn K (.ref f_Floor_state_of) = true)
    (a_Floor_lots_for : PySem.W.findIn K (.ref C_Floor) "lots_for" = some (some (.ref f_Floor_lots_for)))
    (i_Floor_lots_for : PySem.W.isFn K (.ref f_Floor_lots_for) = true)
    (l_Floor_lots_for : K.lookup f_Floor_lots_for = some ⟨oc_Floor_lots_for, od_Floor_lots_for, .func (PySem.W.fnOf "lots_for" "Floor.lots_for" (defArgs s_Floor_lots_for) (defBody s_Floor_lots_for) (defScope s_Floor_lots_for) .none kV_Floor_lots_for dc_Floor_lots_for pm_Floor_lots_for an_Floor_lots_for cd_Floor_lots_for ct_Floor_lots_for), sl_Floor_lots_for⟩)
    (c_Floor_lots_for : PySem.W.codeIn K cd_Floor_lots_for "Floor.lots_for" = true)
    (k_Floor_lots_for : PySem.W.keepIn K (.ref f_Floor_lots_for) = true)
    (a_Floor_pieces_for : PySem.W.findIn K (.ref C_Floor) "pieces_for" = some (some (.ref f_Floor_pieces_for)))
    (i_Floor_pieces_for : PySem.W.isFn K (.ref f_Floor_pieces_for) = true)
    (l_Floor_pieces_for : K.lookup f_Floor_pieces_for = some ⟨oc_Floor_pieces_for, od_Floor_pieces_for, .func (PySem.W.fnOf "pieces_for" "Floor.pieces_for" (defArgs s_Floor_pieces_for) (defBody s_Floor_pieces_for) (defScope s_Floor_pieces_for) .none kV_Floor_pieces_for dc_Floor_pieces_for pm_Floor_pieces_for an_Floor_pieces_for cd_Floor_pieces_for ct_Floor_pieces_for), sl_Floor_pieces_for⟩)
    (c_Floor_pieces_for : PySem.W.codeIn K cd_Floor_pieces_for "Floor.pieces_for" = true)
    (k_Floor_pieces_for : PySem.W.keepIn K (.ref f_Floor_pieces_for) = true)
    (a_Floor_hold : PySem.W.findIn K (.ref C_Floor) "hold" = some (some (.ref f_Floor_hold)))
    (i_Floor_hold : PySem.W.isFn K (.ref f_Floor_hold) = true)
    (l_Floor_hold : K.lookup f_Floor_hold = some ⟨oc_Floor_hold, od_Floor_hold, .func (PySem.W.fnOf "hold" "Floor.hold" (defArgs s_Floor_hold) (defBody s_Floor_hold) (defScope s_Floor_hold) .none kV_Floor_hold dc_Floor_hold pm_Floor_hold an_Floor_hold cd_Floor_hold ct_Floor_hold), sl_Floor_hold⟩)
    (c_Floor_hold : PySem.W.codeIn K cd_Floor_hold "Floor.hold" = true)
    (k_Floor_hold : PySem.W.keepIn K (.ref f_Floor_hold) = true)
    (a_Floor_put_in : PySem.W.findIn K (.ref C_Floor) "put_in" = some (some (.ref f_Floor_put_in)))
    (i_Floor_put_in : PySem.W.isFn K (.ref f_Floor_put_in) = true)
    (l_Floor_put_in : K.lookup f_Floor_put_in = some ⟨oc_Floor_put_in, od_Floor_put_in, .func (PySem.W.fnOf "put_in" "Floor.put_in" (defArgs s_Floor_put_in) (defBody s_Floor_put_in) (defScope s_Floor_put_in) .none kV_Floor_put_in dc_Floor_put_in pm_Floor_put_in an_Floor_put_in cd_Floor_put_in ct_Floor_put_in), sl_Floor_put_in⟩)
    (c_Floor_put_in : PySem.W.codeIn K cd_Floor_put_in "Floor.put_in" = true)
    (k_Floor_put_in : PySem.W.keepIn K (.ref f_Floor_put_in) = true)
    (a_Floor_begin : PySem.W.findIn K (.ref C_Floor) "begin" = some (some (.ref f_Floor_begin)))
    (i_Floor_begin : PySem.W.isFn K (.ref f_Floor_begin) = true)
    (l_Floor_begin : K.lookup f_Floor_begin = some ⟨oc_Floor_begin, od_Floor_begin, .func (PySem.W.fnOf "begin" "Floor.begin" (defArgs s_Floor_begin) (defBody s_Floor_begin) (defScope s_Floor_begin) .none kV_Floor_begin dc_Floor_begin pm_Floor_begin an_Floor_begin cd_Floor_begin ct_Floor_begin), sl_Floor_begin⟩)
    (c_Floor_begin : PySem.W.codeIn K cd_Floor_begin "Floor.begin" = true)
    (k_Floor_begin : PySem.W.keepIn K (.ref f_Floor_begin) = true)
    (a_Floor_buy : PySem.W.findIn K (.ref C_Floor) "buy" = some (some (.ref f_Floor_buy)))
    (i_Floor_buy : PySem.W.isFn K (.ref f_Floor_buy) = true)
    (l_Floor_buy : K.lookup f_Floor_buy = some ⟨oc_Floor_buy, od_Floor_buy, .func (PySem.W.fnOf "buy" "Floor.buy" (defArgs s_Floor_buy) (defBody s_Floor_buy) (defScope s_Floor_buy) .none kV_Floor_buy dc_Floor_buy pm_Floor_buy an_Floor_buy cd_Floor_buy ct_Floor_buy), sl_Floor_buy⟩)
    (c_Floor_buy : PySem.W.codeIn K cd_Floor_buy "Floor.buy" = true)
    (k_Floor_buy : PySem.W.keepIn K (.ref f_Floor_buy) = true)
    (a_Floor_at_hand : PySem.W.findIn K (.ref C_Floor) "at_hand" = some (some (.ref f_Floor_at_hand)))
    (i_Floor_at_hand : PySem.W.isFn K (.ref f_Floor_at_hand) = true)
    (l_Floor_at_hand : K.lookup f_Floor_at_hand = some ⟨oc_Floor_at_hand, od_Floor_at_hand, .func (PySem.W.fnOf "at_hand" "Floor.at_hand" (defArgs s_Floor_at_hand) (defBody s_Floor_at_hand) (defScope s_Floor_at_hand) .none kV_Floor_at_hand dc_Floor_at_hand pm_Floor_at_hand an_Floor_at_hand cd_Floor_at_hand ct_Floor_at_hand), sl_Floor_at_hand⟩)
    (c_Floor_at_hand : PySem.W.codeIn K cd_Floor_at_hand "Floor.at_hand" = true)
    (k_Floor_at_hand : PySem.W.keepIn K (.ref f_Floor_at_hand) = true)
    (a_Floor_book_of : PySem.W.findIn K (.ref C_Floor) "book_of" = some (some (.ref f_Floor_book_of)))
    (i_Floor_book_of : PySem.W.isFn K (.ref f_Floor_book_of) = true)
    (l_Floor_book_of : K.lookup f_Floor_book_of = some ⟨oc_Floor_book_of, od_Floor_book_of, .func (PySem.W.fnOf "book_of" "Floor.book_of" (defArgs s_Floor_book_of) (defBody s_Floor_book_of) (defScope s_Floor_book_of) .none kV_Floor_book_of dc_Floor_book_of pm_Floor_book_of an_Floor_book_of cd_Floor_book_of ct_Floor_book_of), sl_Floor_book_of⟩)
    (c_Floor_book_of : PySem.W.codeIn K cd_Floor_book_of "Floor.book_of" = true)
    (k_Floor_book_of : PySem.W.keepIn K (.ref f_Floor_book_of) = true)
    (a_Floor_lot : PySem.W.findIn K (.ref C_Floor) "lot" = some (some (.ref f_Floor_lot)))
    (i_Floor_lot : PySem.W.isFn K (.ref f_Floor_lot) = true)
    (l_Floor_lot : K.lookup f_Floor_lot = some ⟨oc_Floor_lot, od_Floor_lot, .func (PySem.W.fnOf "lot" "Floor.lot" (defArgs s_Floor_lot) (defBody s_Floor_lot) (defScope s_Floor_lot) .none kV_Floor_lot dc_Floor_lot pm_Floor_lot an_Floor_lot cd_Floor_lot ct_Floor_lot), sl_Floor_lot⟩)
    (c_Floor_lot : PySem.W.codeIn K cd_Floor_lot "Floor.lot" = true)
    (k_Floor_lot : PySem.W.keepIn K (.ref f_Floor_lot) = true)
    (pg_Floor : PySem.W.plainGet K C_Floor Str.empty = true)
    (hd_Floor : PySem.W.hasDictIn K C_Floor = true)
    (po_Floor : PySem.W.plainOver K C_Floor = true)
    (sa_Floor : PySem.W.findIn K (.ref C_Floor) "__setattr__" = some (some (.builtin "object.__setattr__")))
    (mk_Floor : PySem.W.makesIn K C_Floor = true)
    (kc_Floor : PySem.W.keepIn K (.ref C_Floor) = true)
    (n_Floor_book : PySem.W.findIn K (.ref C_Floor) "book" = some none)
    (n_Floor_rates : PySem.W.findIn K (.ref C_Floor) "rates" = some none)
    (n_Floor_lots : PySem.W.findIn K (.ref C_Floor) "lots" = some none)
    (n_Floor_pieces : PySem.W.findIn K (.ref C_Floor) "pieces" = some none)
    (n_Floor_notes : PySem.W.findIn K (.ref C_Floor) "notes" = some none)
    (n_Floor_spent : PySem.W.findIn K (.ref C_Floor) "spent" = some none)
    (n_Floor_lost : PySem.W.findIn K (.ref C_Floor) "lost" = some none)
    (aC_Lot : PySem.W.nsIn K mainGlobals "Lot" = some (some (.ref C_Lot)))
    (a_Lot___init__ : PySem.W.findIn K (.ref C_Lot) "__init__" = some (some (.ref f_Lot___init__)))
    (i_Lot___init__ : PySem.W.isFn K (.ref f_Lot___init__) = true)
    (l_Lot___init__ : K.lookup f_Lot___init__ = some ⟨oc_Lot___init__, od_Lot___init__, .func (PySem.W.fnOf "__init__" "Lot.__init__" (defArgs s_Lot___init__) (defBody s_Lot___init__) (defScope s_Lot___init__) .none kV_Lot___init__ dc_Lot___init__ pm_Lot___init__ an_Lot___init__ cd_Lot___init__ ct_Lot___init__), sl_Lot___init__⟩)
    (c_Lot___init__ : PySem.W.codeIn K cd_Lot___init__ "Lot.__init__" = true)
    (k_Lot___init__ : PySem.W.keepIn K (.ref f_Lot___init__) = true)
    (pg_Lot : PySem.W.plainGet K C_Lot Str.empty = true)
    (hd_Lot : PySem.W.hasDictIn K C_Lot = true)
    (po_Lot : PySem.W.plainOver K C_Lot = true)
    (sa_Lot : PySem.W.findIn K (.ref C_Lot) "__setattr__" = some (some (.builtin "object.__setattr__")))
    (mk_Lot : PySem.W.makesIn K C_Lot = true)
    (kc_Lot : PySem.W.keepIn K (.ref C_Lot) = true)
    (n_Lot_part : PySem.W.findIn K (.ref C_Lot) "part" = some none)
    (n_Lot_left : PySem.W.findIn K (.ref C_Lot) "left" = some none)
    (n_Lot_price : PySem.W.findIn K (.ref C_Lot) "price" = some none)
    (aC_Piece : PySem.W.nsIn K mainGlobals "Piece" = some (some (.ref C_Piece)))
    (a_Piece___init__ : PySem.W.findIn K (.ref C_Piece) "__init__" = some (some (.ref f_Piece___init__)))
    (i_Piece___init__ : PySem.W.isFn K (.ref f_Piece___init__) = true)
    (l_Piece___init__ : K.lookup f_Piece___init__ = some ⟨oc_Piece___init__, od_Piece___init__, .func (PySem.W.fnOf "__init__" "Piece.__init__" (defArgs s_Piece___init__) (defBody s_Piece___init__) (defScope s_Piece___init__) .none kV_Piece___init__ dc_Piece___init__ pm_Piece___init__ an_Piece___init__ cd_Piece___init__ ct_Piece___init__), sl_Piece___init__⟩)
    (c_Piece___init__ : PySem.W.codeIn K cd_Piece___init__ "Piece.__init__" = true)
    (k_Piece___init__ : PySem.W.keepIn K (.ref f_Piece___init__) = true)
    (pg_Piece : PySem.W.plainGet K C_Piece Str.empty = true)
    (hd_Piece : PySem.W.hasDictIn K C_Piece = true)
    (po_Piece : PySem.W.plainOver K C_Piece = true)
    (sa_Piece : PySem.W.findIn K (.ref C_Piece) "__setattr__" = some (some (.builtin "object.__setattr__")))
    (mk_Piece : PySem.W.makesIn K C_Piece = true)
    (kc_Piece : PySem.W.keepIn K (.ref C_Piece) = true)
    (n_Piece_part : PySem.W.findIn K (.ref C_Piece) "part" = some none)
    (n_Piece_state : PySem.W.findIn K (.ref C_Piece) "state" = some none)
    (n_Piece_at : PySem.W.findIn K (.ref C_Piece) "at" = some none)
    (n_Piece_cost : PySem.W.findIn K (.ref C_Piece) "cost" = some none)
    (n_Piece_lots : PySem.W.findIn K (.ref C_Piece) "lots" = some none)
    (n_Piece_pieces : PySem.W.findIn K (.ref C_Piece) "pieces" = some none)
    (n_Piece_above : PySem.W.findIn K (.ref C_Piece) "above" = some none)
    (n_Piece_client : PySem.W.findIn K (.ref C_Piece) "client" = some none)
    (g_MOST_SIGNS : PySem.W.nsIn K mainGlobals "MOST_SIGNS" = some (some (.int 8 tk_MOST_SIGNS)))
    (g_MOST_LOT : PySem.W.nsIn K mainGlobals "MOST_LOT" = some (some (.int 99 tk_MOST_LOT)))
    (g_MOST_LEAD : PySem.W.nsIn K mainGlobals "MOST_LEAD" = some (some (.int 30 tk_MOST_LEAD)))
    (g_MOST_NEED : PySem.W.nsIn K mainGlobals "MOST_NEED" = some (some (.int 9 tk_MOST_NEED)))
    (g_MOST_STEPS : PySem.W.nsIn K mainGlobals "MOST_STEPS" = some (some (.int 5 tk_MOST_STEPS)))
    (g_MACHINES : PySem.W.nsIn K mainGlobals "MACHINES" = some (some (.int 6 tk_MACHINES)))
    (g_MOST_MINUTES : PySem.W.nsIn K mainGlobals "MOST_MINUTES" = some (some (.int 99 tk_MOST_MINUTES)))
    (g_MOST_PARTS : PySem.W.nsIn K mainGlobals "MOST_PARTS" = some (some (.int 12 tk_MOST_PARTS)))
    (g_MOST_LED : PySem.W.nsIn K mainGlobals "MOST_LED" = some (some (.int 200 tk_MOST_LED)))
    (g_MOST_RATE : PySem.W.nsIn K mainGlobals "MOST_RATE" = some (some (.int 99 tk_MOST_RATE)))
    (g_MOST_MANY : PySem.W.nsIn K mainGlobals "MOST_MANY" = some (some (.int 999 tk_MOST_MANY)))
    (g_MOST_PRICE : PySem.W.nsIn K mainGlobals "MOST_PRICE" = some (some (.int 9999 tk_MOST_PRICE)))
    (g_LETTERS : PySem.W.nsIn K mainGlobals "LETTERS" = some (some (.str letters tk_LETTERS)))
    (g_MAKING : PySem.W.nsIn K mainGlobals "MAKING" = some (some (.str "making" tk_MAKING)))
    (g_MADE : PySem.W.nsIn K mainGlobals "MADE" = some (some (.str "made" tk_MADE)))
    (g_STOCK : PySem.W.nsIn K mainGlobals "STOCK" = some (some (.str "stock" tk_STOCK)))
    (g_BAD : PySem.W.nsIn K mainGlobals "BAD" = some (some (.str "bad" tk_BAD)))
    (g_SCRAP : PySem.W.nsIn K mainGlobals "SCRAP" = some (some (.str "scrap" tk_SCRAP)))
    (g_WITHIN : PySem.W.nsIn K mainGlobals "WITHIN" = some (some (.str "within" tk_WITHIN)))
    (g_SOLD : PySem.W.nsIn K mainGlobals "SOLD" = some (some (.str "sold" tk_SOLD)))
    (g_STRIPPED : PySem.W.nsIn K mainGlobals "STRIPPED" = some (some (.str "stripped" tk_STRIPPED)))
    (g_LOTS : PySem.W.nsIn K mainGlobals "LOTS" = some (some (.str "lots" tk_LOTS)))
    (g_WORK : PySem.W.nsIn K mainGlobals "WORK" = some (some (.str "work" tk_WORK)))
    (g_LOST : PySem.W.nsIn K mainGlobals "LOST" = some (some (.str "lost" tk_LOST)))
    (g_HOUSE : PySem.W.nsIn K mainGlobals "HOUSE" = some (some (.ref T_HOUSE)))
    (t_HOUSE : K.lookup T_HOUSE = some ⟨.type "tuple", to_HOUSE, .seq #[.str "making" tt_HOUSE_0, .str "made" tt_HOUSE_1, .str "bad" tt_HOUSE_2, .str "stock" tt_HOUSE_3] tn_HOUSE, ts_HOUSE⟩)
    (g_PLACES : PySem.W.nsIn K mainGlobals "PLACES" = some (some (.ref T_PLACES)))
    (t_PLACES : K.lookup T_PLACES = some ⟨.type "dict", none, .dict es_PLACES ne_PLACES, #[]⟩)
    (kl_PLACES : PySem.W.KeysLit w.params es_PLACES.toList)
    (lo_PLACES : (T_PLACES == sysModules) = false)
    (p_PLACES_making : PySem.W.nsIn K T_PLACES "making" = some (some (.str "work" dt_PLACES_making)))
    (p_PLACES_made : PySem.W.nsIn K T_PLACES "made" = some (some (.str "work" dt_PLACES_made)))
    (p_PLACES_bad : PySem.W.nsIn K T_PLACES "bad" = some (some (.str "work" dt_PLACES_bad)))
    (p_PLACES_stock : PySem.W.nsIn K T_PLACES "stock" = some (some (.str "stock" dt_PLACES_stock)))
    (p_PLACES_within : PySem.W.nsIn K T_PLACES "within" = some none)
    (p_PLACES_sold : PySem.W.nsIn K T_PLACES "sold" = some (some (.str "sold" dt_PLACES_sold)))
    (p_PLACES_scrap : PySem.W.nsIn K T_PLACES "scrap" = some (some (.str "scrap" dt_PLACES_scrap)))
    (p_PLACES_stripped : PySem.W.nsIn K T_PLACES "stripped" = some none)
    (aC_BadParts : PySem.W.nsIn K mainGlobals "BadParts" = some (some (.ref C_BadParts)))
    (aC_BadPart : PySem.W.nsIn K mainGlobals "BadPart" = some (some (.ref C_BadPart)))
    (aC_BadCount : PySem.W.nsIn K mainGlobals "BadCount" = some (some (.ref C_BadCount)))
    (aC_Lacks : PySem.W.nsIn K mainGlobals "Lacks" = some (some (.ref C_Lacks)))
    (aC_BadPiece : PySem.W.nsIn K mainGlobals "BadPiece" = some (some (.ref C_BadPiece)))
    (aC_BadLot : PySem.W.nsIn K mainGlobals "BadLot" = some (some (.ref C_BadLot)))
    (aC_BadText : PySem.W.nsIn K mainGlobals "BadText" = some (some (.ref C_BadText)))
    (aC_KinError : PySem.W.nsIn K mainGlobals "KinError" = some (some (.ref C_KinError)))
    (s_KE : PySem.W.specialIn K (.ref C_KinError) "__getattribute__" = some (some (.builtin "type.__getattribute__")))
    (r_KE : PySem.W.readsIn K C_KinError (.type "type") = true)
    (v_KE : PySem.W.findCls K (.ref C_KinError) (.type "type") "__init__" = some (.val (.builtin "ValueError.__init__")))
    (xn : PySem.W.specialIn K (.builtin "object.__class__") "__get__" = some (some (.builtin "getset_descriptor.__get__")))
    (xt : PySem.W.takesIn K (.builtin "object.__class__") = some true)
    (ex_BadPart : PySem.W.subIn K (.ref C_BadPart) (.type "BaseException") = some true)
    (ty_BadPart : PySem.W.typeIn K (.ref C_BadPart) = some (.type "type"))
    (kp_BadPart : PySem.W.keepIn K (.ref C_BadPart) = true)
    (hg_BadPart : PySem.W.findIn K (.ref C_BadPart) "__getattribute__" = some (some (.builtin "BaseException.__getattribute__")))
    (hk_BadPart : PySem.W.findIn K (.ref C_BadPart) "__getattr__" = some none)
    (hd_BadPart : PySem.W.hasDictIn K C_BadPart = true)
    (ha_BadPart : PySem.W.findIn K (.ref C_BadPart) "__class__" = some (some (.builtin "object.__class__")))
    (hm_BadPart : PySem.W.mroIn K C_BadPart (.type "object") = some true)
    (em_BadPart : PySem.W.exmOne K (.ref C_BadPart) (.ref C_KinError) = some true)
    (k0_BadPart : PySem.W.kitOne K (.ref C_BadPart) (.ref C_BadParts) = some false)
    (k1_BadPart : PySem.W.kitOne K (.ref C_BadPart) (.ref C_BadPart) = some true)
    (k2_BadPart : PySem.W.kitOne K (.ref C_BadPart) (.ref C_BadCount) = some false)
    (k3_BadPart : PySem.W.kitOne K (.ref C_BadPart) (.ref C_Lacks) = some false)
    (k4_BadPart : PySem.W.kitOne K (.ref C_BadPart) (.ref C_BadPiece) = some false)
    (k5_BadPart : PySem.W.kitOne K (.ref C_BadPart) (.ref C_BadLot) = some false)
    (k6_BadPart : PySem.W.kitOne K (.ref C_BadPart) (.ref C_BadText) = some false)
    (kv_BadPart : PySem.W.kitOne K (.ref C_BadPart) (.type "ValueError") = some true)
    (nf_BadPart : PySem.W.findIn K (.ref C_BadPart) "name" = some none)
    (xl_BadPart : K.lookup C_BadPart = some (excClassObj nm_BadPart q_BadPart C_BadPart N_BadPart bs_BadPart bm_BadPart true sn_BadPart sub_BadPart ab_BadPart co_BadPart dd_BadPart x0_BadPart x1_BadPart x2_BadPart x3_BadPart x5_BadPart "ValueError.__new__"))
    (xr_BadPart : PySem.HandSPX.refsVE bm_BadPart = true)
    (sa_BadPart : PySem.W.findIn K (.ref C_BadPart) "__setattr__" = some (some (.builtin "object.__setattr__")))
    (a_BadPart___init__ : PySem.W.findIn K (.ref C_BadPart) "__init__" = some (some (.ref f_BadPart___init__)))
    (i_BadPart___init__ : PySem.W.isFn K (.ref f_BadPart___init__) = true)
    (l_BadPart___init__ : K.lookup f_BadPart___init__ = some ⟨oc_BadPart___init__, od_BadPart___init__, .func (PySem.W.fnOf "__init__" "BadPart.__init__" (defArgs s_BadPart___init__) (defBody s_BadPart___init__) (defScope s_BadPart___init__) .none kV_BadPart___init__ dc_BadPart___init__ pm_BadPart___init__ an_BadPart___init__ cd_BadPart___init__ ct_BadPart___init__), sl_BadPart___init__⟩)
    (c_BadPart___init__ : PySem.W.codeIn K cd_BadPart___init__ "BadPart.__init__" = true)
    (k_BadPart___init__ : PySem.W.keepIn K (.ref f_BadPart___init__) = true)
    (ex_BadCount : PySem.W.subIn K (.ref C_BadCount) (.type "BaseException") = some true)
    (ty_BadCount : PySem.W.typeIn K (.ref C_BadCount) = some (.type "type"))
    (kp_BadCount : PySem.W.keepIn K (.ref C_BadCount) = true)
    (hg_BadCount : PySem.W.findIn K (.ref C_BadCount) "__getattribute__" = some (some (.builtin "BaseException.__getattribute__")))
    (hk_BadCount : PySem.W.findIn K (.ref C_BadCount) "__getattr__" = some none)
    (hd_BadCount : PySem.W.hasDictIn K C_BadCount = true)
    (ha_BadCount : PySem.W.findIn K (.ref C_BadCount) "__class__" = some (some (.builtin "object.__class__")))
    (hm_BadCount : PySem.W.mroIn K C_BadCount (.type "object") = some true)
    (em_BadCount : PySem.W.exmOne K (.ref C_BadCount) (.ref C_KinError) = some true)
    (k0_BadCount : PySem.W.kitOne K (.ref C_BadCount) (.ref C_BadParts) = some false)
    (k1_BadCount : PySem.W.kitOne K (.ref C_BadCount) (.ref C_BadPart) = some false)
    (k2_BadCount : PySem.W.kitOne K (.ref C_BadCount) (.ref C_BadCount) = some true)
    (k3_BadCount : PySem.W.kitOne K (.ref C_BadCount) (.ref C_Lacks) = some false)
    (k4_BadCount : PySem.W.kitOne K (.ref C_BadCount) (.ref C_BadPiece) = some false)
    (k5_BadCount : PySem.W.kitOne K (.ref C_BadCount) (.ref C_BadLot) = some false)
    (k6_BadCount : PySem.W.kitOne K (.ref C_BadCount) (.ref C_BadText) = some false)
    (kv_BadCount : PySem.W.kitOne K (.ref C_BadCount) (.type "ValueError") = some true)
    (xe_BadCount : PySem.W.excIn K C_BadCount [.type "ValueError", .type "Exception", .type "BaseException", .type "object"] "ValueError.__new__" = true)
    (ex_Lacks : PySem.W.subIn K (.ref C_Lacks) (.type "BaseException") = some true)
    (ty_Lacks : PySem.W.typeIn K (.ref C_Lacks) = some (.type "type"))
    (kp_Lacks : PySem.W.keepIn K (.ref C_Lacks) = true)
    (hg_Lacks : PySem.W.findIn K (.ref C_Lacks) "__getattribute__" = some (some (.builtin "BaseException.__getattribute__")))
    (hk_Lacks : PySem.W.findIn K (.ref C_Lacks) "__getattr__" = some none)
    (hd_Lacks : PySem.W.hasDictIn K C_Lacks = true)
    (ha_Lacks : PySem.W.findIn K (.ref C_Lacks) "__class__" = some (some (.builtin "object.__class__")))
    (hm_Lacks : PySem.W.mroIn K C_Lacks (.type "object") = some true)
    (em_Lacks : PySem.W.exmOne K (.ref C_Lacks) (.ref C_KinError) = some true)
    (k0_Lacks : PySem.W.kitOne K (.ref C_Lacks) (.ref C_BadParts) = some false)
    (k1_Lacks : PySem.W.kitOne K (.ref C_Lacks) (.ref C_BadPart) = some false)
    (k2_Lacks : PySem.W.kitOne K (.ref C_Lacks) (.ref C_BadCount) = some false)
    (k3_Lacks : PySem.W.kitOne K (.ref C_Lacks) (.ref C_Lacks) = some true)
    (k4_Lacks : PySem.W.kitOne K (.ref C_Lacks) (.ref C_BadPiece) = some false)
    (k5_Lacks : PySem.W.kitOne K (.ref C_Lacks) (.ref C_BadLot) = some false)
    (k6_Lacks : PySem.W.kitOne K (.ref C_Lacks) (.ref C_BadText) = some false)
    (kv_Lacks : PySem.W.kitOne K (.ref C_Lacks) (.type "ValueError") = some true)
    (nf_Lacks : PySem.W.findIn K (.ref C_Lacks) "name" = some none)
    (xl_Lacks : K.lookup C_Lacks = some (excClassObj nm_Lacks q_Lacks C_Lacks N_Lacks bs_Lacks bm_Lacks true sn_Lacks sub_Lacks ab_Lacks co_Lacks dd_Lacks x0_Lacks x1_Lacks x2_Lacks x3_Lacks x5_Lacks "ValueError.__new__"))
    (xr_Lacks : PySem.HandSPX.refsVE bm_Lacks = true)
    (sa_Lacks : PySem.W.findIn K (.ref C_Lacks) "__setattr__" = some (some (.builtin "object.__setattr__")))
    (a_Lacks___init__ : PySem.W.findIn K (.ref C_Lacks) "__init__" = some (some (.ref f_Lacks___init__)))
    (i_Lacks___init__ : PySem.W.isFn K (.ref f_Lacks___init__) = true)
    (l_Lacks___init__ : K.lookup f_Lacks___init__ = some ⟨oc_Lacks___init__, od_Lacks___init__, .func (PySem.W.fnOf "__init__" "Lacks.__init__" (defArgs s_Lacks___init__) (defBody s_Lacks___init__) (defScope s_Lacks___init__) .none kV_Lacks___init__ dc_Lacks___init__ pm_Lacks___init__ an_Lacks___init__ cd_Lacks___init__ ct_Lacks___init__), sl_Lacks___init__⟩)
    (c_Lacks___init__ : PySem.W.codeIn K cd_Lacks___init__ "Lacks.__init__" = true)
    (k_Lacks___init__ : PySem.W.keepIn K (.ref f_Lacks___init__) = true)
    (ex_BadPiece : PySem.W.subIn K (.ref C_BadPiece) (.type "BaseException") = some true)
    (ty_BadPiece : PySem.W.typeIn K (.ref C_BadPiece) = some (.type "type"))
    (kp_BadPiece : PySem.W.keepIn K (.ref C_BadPiece) = true)
    (hg_BadPiece : PySem.W.findIn K (.ref C_BadPiece) "__getattribute__" = some (some (.builtin "BaseException.__getattribute__")))
    (hk_BadPiece : PySem.W.findIn K (.ref C_BadPiece) "__getattr__" = some none)
    (hd_BadPiece : PySem.W.hasDictIn K C_BadPiece = true)
    (ha_BadPiece : PySem.W.findIn K (.ref C_BadPiece) "__class__" = some (some (.builtin "object.__class__")))
    (hm_BadPiece : PySem.W.mroIn K C_BadPiece (.type "object") = some true)
    (em_BadPiece : PySem.W.exmOne K (.ref C_BadPiece) (.ref C_KinError) = some true)
    (k0_BadPiece : PySem.W.kitOne K (.ref C_BadPiece) (.ref C_BadParts) = some false)
    (k1_BadPiece : PySem.W.kitOne K (.ref C_BadPiece) (.ref C_BadPart) = some false)
    (k2_BadPiece : PySem.W.kitOne K (.ref C_BadPiece) (.ref C_BadCount) = some false)
    (k3_BadPiece : PySem.W.kitOne K (.ref C_BadPiece) (.ref C_Lacks) = some false)
    (k4_BadPiece : PySem.W.kitOne K (.ref C_BadPiece) (.ref C_BadPiece) = some true)
    (k5_BadPiece : PySem.W.kitOne K (.ref C_BadPiece) (.ref C_BadLot) = some false)
    (k6_BadPiece : PySem.W.kitOne K (.ref C_BadPiece) (.ref C_BadText) = some false)
    (kv_BadPiece : PySem.W.kitOne K (.ref C_BadPiece) (.type "ValueError") = some true)
    (nf_BadPiece : PySem.W.findIn K (.ref C_BadPiece) "state" = some none)
    (xl_BadPiece : K.lookup C_BadPiece = some (excClassObj nm_BadPiece q_BadPiece C_BadPiece N_BadPiece bs_BadPiece bm_BadPiece true sn_BadPiece sub_BadPiece ab_BadPiece co_BadPiece dd_BadPiece x0_BadPiece x1_BadPiece x2_BadPiece x3_BadPiece x5_BadPiece "ValueError.__new__"))
    (xr_BadPiece : PySem.HandSPX.refsVE bm_BadPiece = true)
    (sa_BadPiece : PySem.W.findIn K (.ref C_BadPiece) "__setattr__" = some (some (.builtin "object.__setattr__")))
    (a_BadPiece___init__ : PySem.W.findIn K (.ref C_BadPiece) "__init__" = some (some (.ref f_BadPiece___init__)))
    (i_BadPiece___init__ : PySem.W.isFn K (.ref f_BadPiece___init__) = true)
    (l_BadPiece___init__ : K.lookup f_BadPiece___init__ = some ⟨oc_BadPiece___init__, od_BadPiece___init__, .func (PySem.W.fnOf "__init__" "BadPiece.__init__" (defArgs s_BadPiece___init__) (defBody s_BadPiece___init__) (defScope s_BadPiece___init__) .none kV_BadPiece___init__ dc_BadPiece___init__ pm_BadPiece___init__ an_BadPiece___init__ cd_BadPiece___init__ ct_BadPiece___init__), sl_BadPiece___init__⟩)
    (c_BadPiece___init__ : PySem.W.codeIn K cd_BadPiece___init__ "BadPiece.__init__" = true)
    (k_BadPiece___init__ : PySem.W.keepIn K (.ref f_BadPiece___init__) = true)
    (z_ValueError : PySem.W.nsIn K mainGlobals "ValueError" = some none)
    (z_list : PySem.W.nsIn K mainGlobals "list" = some none)
    (z_max : PySem.W.nsIn K mainGlobals "max" = some none)
    (z_len : PySem.W.nsIn K mainGlobals "len" = some none)
    (z_all : PySem.W.nsIn K mainGlobals "all" = some none)
    (z_set : PySem.W.nsIn K mainGlobals "set" = some none)
    (z_enumerate : PySem.W.nsIn K mainGlobals "enumerate" = some none)
    (z_tuple : PySem.W.nsIn K mainGlobals "tuple" = some none)
    (z_sum : PySem.W.nsIn K mainGlobals "sum" = some none)
    (z_min : PySem.W.nsIn K mainGlobals "min" = some none)
    (z_isinstance : PySem.W.nsIn K mainGlobals "isinstance" = some none)
    (z_range : PySem.W.nsIn K mainGlobals "range" = some none)
    (z_int : PySem.W.nsIn K mainGlobals "int" = some none)
    (z_dict : PySem.W.nsIn K mainGlobals "dict" = some none)
    (TT : ∀ y ∈ (["law"] : List Str), ∀ c PT, PySem.W.tabIn K y = some (c, PT) → PySem.W.CodeHd h c PT ∧ h.get? PT = some { cls := .none, data := .fields #[] }) : LamX.LawAtS l w K CX0 15 63 "_law_script" mg fa h := by
  have e := hfa.symm.trans (PySem.W.mg_of X G a_law)
  cases e
  have F__law_mix := fun_mk (st := s__law_mix) l__law_mix c__law_mix k__law_mix
  have m__law_mix := PySem.W.mg_of X G a__law_mix
  have F__law_next := fun_mk (st := s__law_next) l__law_next c__law_next k__law_next
  have m__law_next := PySem.W.mg_of X G a__law_next
  have F_is_name := fun_mk (st := s_is_name) l_is_name c_is_name k_is_name
  have m_is_name := PySem.W.mg_of X G a_is_name
  have F_need_many := fun_mk (st := s_need_many) l_need_many c_need_many k_need_many
  have m_need_many := PySem.W.mg_of X G a_need_many
  have F_places := fun_mk (st := s_places) l_places c_places k_places
  have m_places := PySem.W.mg_of X G a_places
  have F_law : FunC K "law" "law" s_law _ ca_law _ := ⟨⟨oc_law, od_law, kV_law, dc_law, pm_law, an_law, ct_law, sl_law, rfl, l_law, c_law⟩, k_law⟩
  have m_law := PySem.W.mg_of X G a_law
  have F__law_kind := fun_mk (st := s__law_kind) l__law_kind c__law_kind k__law_kind
  have m__law_kind := PySem.W.mg_of X G a__law_kind
  have F_Parts_is_row := fun_mk (st := s_Parts_is_row) l_Parts_is_row c_Parts_is_row k_Parts_is_row
  have F_Parts_led_to := fun_mk (st := s_Parts_led_to) l_Parts_led_to c_Parts_led_to k_Parts_led_to
  have F_Parts___init__ := fun_mk (st := s_Parts___init__) l_Parts___init__ c_Parts___init__ k_Parts___init__
  have F_Parts_needs_of := fun_mk (st := s_Parts_needs_of) l_Parts_needs_of c_Parts_needs_of k_Parts_needs_of
  have F_Parts_steps_of := fun_mk (st := s_Parts_steps_of) l_Parts_steps_of c_Parts_steps_of k_Parts_steps_of
  have F_Parts_is_bought := fun_mk (st := s_Parts_is_bought) l_Parts_is_bought c_Parts_is_bought k_Parts_is_bought
  have F_Parts_need_part := fun_mk (st := s_Parts_need_part) l_Parts_need_part c_Parts_need_part k_Parts_need_part
  have cl_Parts : Cls K C_Parts := ⟨pg_Parts, hd_Parts, po_Parts, sa_Parts⟩
  have mC_Parts := PySem.W.mg_of X G aC_Parts
  have F_Floor___init__ := fun_mk (st := s_Floor___init__) l_Floor___init__ c_Floor___init__ k_Floor___init__
  have F_Floor_piece := fun_mk (st := s_Floor_piece) l_Floor_piece c_Floor_piece k_Floor_piece
  have F_Floor_work := fun_mk (st := s_Floor_work) l_Floor_work c_Floor_work k_Floor_work
  have F_Floor_test := fun_mk (st := s_Floor_test) l_Floor_test c_Floor_test k_Floor_test
  have F_Floor_scrap := fun_mk (st := s_Floor_scrap) l_Floor_scrap c_Floor_scrap k_Floor_scrap
  have F_Floor_state_of := fun_mk (st := s_Floor_state_of) l_Floor_state_of c_Floor_state_of k_Floor_state_of
  have F_Floor_lots_for := fun_mk (st := s_Floor_lots_for) l_Floor_lots_for c_Floor_lots_for k_Floor_lots_for
  have F_Floor_pieces_for := fun_mk (st := s_Floor_pieces_for) l_Floor_pieces_for c_Floor_pieces_for k_Floor_pieces_for
  have F_Floor_hold := fun_mk (st := s_Floor_hold) l_Floor_hold c_Floor_hold k_Floor_hold
  have F_Floor_put_in := fun_mk (st := s_Floor_put_in) l_Floor_put_in c_Floor_put_in k_Floor_put_in
  have F_Floor_begin := fun_mk (st := s_Floor_begin) l_Floor_begin c_Floor_begin k_Floor_begin
  have F_Floor_buy := fun_mk (st := s_Floor_buy) l_Floor_buy c_Floor_buy k_Floor_buy
  have F_Floor_at_hand := fun_mk (st := s_Floor_at_hand) l_Floor_at_hand c_Floor_at_hand k_Floor_at_hand
  have F_Floor_book_of := fun_mk (st := s_Floor_book_of) l_Floor_book_of c_Floor_book_of k_Floor_book_of
  have F_Floor_lot := fun_mk (st := s_Floor_lot) l_Floor_lot c_Floor_lot k_Floor_lot
  have cl_Floor : Cls K C_Floor := ⟨pg_Floor, hd_Floor, po_Floor, sa_Floor⟩
  have mC_Floor := PySem.W.mg_of X G aC_Floor
  have F_Lot___init__ := fun_mk (st := s_Lot___init__) l_Lot___init__ c_Lot___init__ k_Lot___init__
  have cl_Lot : Cls K C_Lot := ⟨pg_Lot, hd_Lot, po_Lot, sa_Lot⟩
  have mC_Lot := PySem.W.mg_of X G aC_Lot
  have F_Piece___init__ := fun_mk (st := s_Piece___init__) l_Piece___init__ c_Piece___init__ k_Piece___init__
  have cl_Piece : Cls K C_Piece := ⟨pg_Piece, hd_Piece, po_Piece, sa_Piece⟩
  have mC_Piece := PySem.W.mg_of X G aC_Piece
  have c_MOST_SIGNS : GlI mg "MOST_SIGNS" 8 := ⟨_, PySem.W.mg_of X G g_MOST_SIGNS⟩
  have c_MOST_LOT : GlI mg "MOST_LOT" 99 := ⟨_, PySem.W.mg_of X G g_MOST_LOT⟩
  have c_MOST_LEAD : GlI mg "MOST_LEAD" 30 := ⟨_, PySem.W.mg_of X G g_MOST_LEAD⟩
  have c_MOST_NEED : GlI mg "MOST_NEED" 9 := ⟨_, PySem.W.mg_of X G g_MOST_NEED⟩
  have c_MOST_STEPS : GlI mg "MOST_STEPS" 5 := ⟨_, PySem.W.mg_of X G g_MOST_STEPS⟩
  have c_MACHINES : GlI mg "MACHINES" 6 := ⟨_, PySem.W.mg_of X G g_MACHINES⟩
  have c_MOST_MINUTES : GlI mg "MOST_MINUTES" 99 := ⟨_, PySem.W.mg_of X G g_MOST_MINUTES⟩
  have c_MOST_PARTS : GlI mg "MOST_PARTS" 12 := ⟨_, PySem.W.mg_of X G g_MOST_PARTS⟩
  have c_MOST_LED : GlI mg "MOST_LED" 200 := ⟨_, PySem.W.mg_of X G g_MOST_LED⟩
  have c_MOST_RATE : GlI mg "MOST_RATE" 99 := ⟨_, PySem.W.mg_of X G g_MOST_RATE⟩
  have c_MOST_MANY : GlI mg "MOST_MANY" 999 := ⟨_, PySem.W.mg_of X G g_MOST_MANY⟩
  have c_MOST_PRICE : GlI mg "MOST_PRICE" 9999 := ⟨_, PySem.W.mg_of X G g_MOST_PRICE⟩
  have c_LETTERS : GlS mg "LETTERS" letters := ⟨_, PySem.W.mg_of X G g_LETTERS⟩
  have c_MAKING : GlS mg "MAKING" "making" := ⟨_, PySem.W.mg_of X G g_MAKING⟩
  have c_MADE : GlS mg "MADE" "made" := ⟨_, PySem.W.mg_of X G g_MADE⟩
  have c_STOCK : GlS mg "STOCK" "stock" := ⟨_, PySem.W.mg_of X G g_STOCK⟩
  have c_BAD : GlS mg "BAD" "bad" := ⟨_, PySem.W.mg_of X G g_BAD⟩
  have c_SCRAP : GlS mg "SCRAP" "scrap" := ⟨_, PySem.W.mg_of X G g_SCRAP⟩
  have c_WITHIN : GlS mg "WITHIN" "within" := ⟨_, PySem.W.mg_of X G g_WITHIN⟩
  have c_SOLD : GlS mg "SOLD" "sold" := ⟨_, PySem.W.mg_of X G g_SOLD⟩
  have c_STRIPPED : GlS mg "STRIPPED" "stripped" := ⟨_, PySem.W.mg_of X G g_STRIPPED⟩
  have c_LOTS : GlS mg "LOTS" "lots" := ⟨_, PySem.W.mg_of X G g_LOTS⟩
  have c_WORK : GlS mg "WORK" "work" := ⟨_, PySem.W.mg_of X G g_WORK⟩
  have c_LOST : GlS mg "LOST" "lost" := ⟨_, PySem.W.mg_of X G g_LOST⟩
  have c_HOUSE : GlV mg "HOUSE" (.ref T_HOUSE) := ⟨_, PySem.W.mg_of X G g_HOUSE, rfl⟩
  have hTH : ∀ H, SqT K H T_HOUSE ((["making", "made", "bad", "stock"] : List Str).map V.str) := fun H => .inr ⟨_, _, _, t_HOUSE, rfl, rfl, (by show 4 ≤ sizeLine; decide), .cons ⟨_, rfl⟩ (.cons ⟨_, rfl⟩ (.cons ⟨_, rfl⟩ (.cons ⟨_, rfl⟩ (.nil))))⟩
  have c_PLACES : GlV mg "PLACES" (.ref T_PLACES) := ⟨_, PySem.W.mg_of X G g_PLACES, rfl⟩
  have hPL : PlcK K w T_PLACES := ⟨⟨_, _, ⟨t_PLACES, kl_PLACES, lo_PLACES⟩⟩, fun z hz => by
    simp only [stList, List.mem_cons, List.not_mem_nil, or_false] at hz
    rcases hz with rfl | rfl | rfl | rfl | rfl | rfl | rfl | rfl
    · exact .inl ⟨_, _, rfl, p_PLACES_making⟩
    · exact .inl ⟨_, _, rfl, p_PLACES_made⟩
    · exact .inl ⟨_, _, rfl, p_PLACES_bad⟩
    · exact .inl ⟨_, _, rfl, p_PLACES_stock⟩
    · exact .inr ⟨rfl, p_PLACES_within⟩
    · exact .inl ⟨_, _, rfl, p_PLACES_sold⟩
    · exact .inl ⟨_, _, rfl, p_PLACES_scrap⟩
    · exact .inr ⟨rfl, p_PLACES_stripped⟩⟩
  have mC_BadParts := PySem.W.mg_of X G aC_BadParts
  have gl_BadParts : GlV mg "BadParts" (.ref C_BadParts) := ⟨_, mC_BadParts, rfl⟩
  have mC_BadPart := PySem.W.mg_of X G aC_BadPart
  have gl_BadPart : GlV mg "BadPart" (.ref C_BadPart) := ⟨_, mC_BadPart, rfl⟩
  have mC_BadCount := PySem.W.mg_of X G aC_BadCount
  have gl_BadCount : GlV mg "BadCount" (.ref C_BadCount) := ⟨_, mC_BadCount, rfl⟩
  have mC_Lacks := PySem.W.mg_of X G aC_Lacks
  have gl_Lacks : GlV mg "Lacks" (.ref C_Lacks) := ⟨_, mC_Lacks, rfl⟩
  have mC_BadPiece := PySem.W.mg_of X G aC_BadPiece
  have gl_BadPiece : GlV mg "BadPiece" (.ref C_BadPiece) := ⟨_, mC_BadPiece, rfl⟩
  have mC_BadLot := PySem.W.mg_of X G aC_BadLot
  have gl_BadLot : GlV mg "BadLot" (.ref C_BadLot) := ⟨_, mC_BadLot, rfl⟩
  have mC_BadText := PySem.W.mg_of X G aC_BadText
  have gl_BadText : GlV mg "BadText" (.ref C_BadText) := ⟨_, mC_BadText, rfl⟩
  have mC_KinError := PySem.W.mg_of X G aC_KinError
  have gl_KinError : GlV mg "KinError" (.ref C_KinError) := ⟨_, mC_KinError, rfl⟩
  have EB : ExBase K C_KinError (.type "type") := ⟨s_KE, r_KE, v_KE⟩
  have ec_BadPart : ExcC K C_BadPart := ⟨hg_BadPart, hk_BadPart, ex_BadPart, hd_BadPart, ha_BadPart, xn, xt, hm_BadPart⟩
  have kd_BadPart : KndD K ⟨C_BadPart, C_BadCount, C_Lacks, C_BadPiece, C_BadLot, C_BadParts, C_BadText, C_KinError⟩ 1 := ⟨ec_BadPart, em_BadPart, k0_BadPart, k1_BadPart, k2_BadPart, k3_BadPart, k4_BadPart, k5_BadPart, k6_BadPart, kv_BadPart⟩
  have kf_BadPart : KndF K ⟨C_BadPart, C_BadCount, C_Lacks, C_BadPiece, C_BadLot, C_BadParts, C_BadText, C_KinError⟩ 1 "name" := ⟨kd_BadPart, ⟨hg_BadPart, hk_BadPart, ex_BadPart, hd_BadPart⟩, nf_BadPart⟩
  have ox_BadPart : OexC K C_BadPart := ⟨⟨_, _, _, _, _, _, _, _, _, _, _, _, _, _, _, xl_BadPart, xr_BadPart⟩, sa_BadPart, ex_BadPart, ty_BadPart, kp_BadPart⟩
  have F_BadPart___init__ := fun_mk (st := s_BadPart___init__) l_BadPart___init__ c_BadPart___init__ k_BadPart___init__
  have ec_BadCount : ExcC K C_BadCount := ⟨hg_BadCount, hk_BadCount, ex_BadCount, hd_BadCount, ha_BadCount, xn, xt, hm_BadCount⟩
  have kd_BadCount : KndD K ⟨C_BadPart, C_BadCount, C_Lacks, C_BadPiece, C_BadLot, C_BadParts, C_BadText, C_KinError⟩ 2 := ⟨ec_BadCount, em_BadCount, k0_BadCount, k1_BadCount, k2_BadCount, k3_BadCount, k4_BadCount, k5_BadCount, k6_BadCount, kv_BadCount⟩
  have X_BadCount : ExT K mg "BadCount" C_BadCount := ⟨xe_BadCount, mC_BadCount, kp_BadCount, ex_BadCount, ty_BadCount⟩
  have ec_Lacks : ExcC K C_Lacks := ⟨hg_Lacks, hk_Lacks, ex_Lacks, hd_Lacks, ha_Lacks, xn, xt, hm_Lacks⟩
  have kd_Lacks : KndD K ⟨C_BadPart, C_BadCount, C_Lacks, C_BadPiece, C_BadLot, C_BadParts, C_BadText, C_KinError⟩ 3 := ⟨ec_Lacks, em_Lacks, k0_Lacks, k1_Lacks, k2_Lacks, k3_Lacks, k4_Lacks, k5_Lacks, k6_Lacks, kv_Lacks⟩
  have kf_Lacks : KndF K ⟨C_BadPart, C_BadCount, C_Lacks, C_BadPiece, C_BadLot, C_BadParts, C_BadText, C_KinError⟩ 3 "name" := ⟨kd_Lacks, ⟨hg_Lacks, hk_Lacks, ex_Lacks, hd_Lacks⟩, nf_Lacks⟩
  have ox_Lacks : OexC K C_Lacks := ⟨⟨_, _, _, _, _, _, _, _, _, _, _, _, _, _, _, xl_Lacks, xr_Lacks⟩, sa_Lacks, ex_Lacks, ty_Lacks, kp_Lacks⟩
  have F_Lacks___init__ := fun_mk (st := s_Lacks___init__) l_Lacks___init__ c_Lacks___init__ k_Lacks___init__
  have ec_BadPiece : ExcC K C_BadPiece := ⟨hg_BadPiece, hk_BadPiece, ex_BadPiece, hd_BadPiece, ha_BadPiece, xn, xt, hm_BadPiece⟩
  have kd_BadPiece : KndD K ⟨C_BadPart, C_BadCount, C_Lacks, C_BadPiece, C_BadLot, C_BadParts, C_BadText, C_KinError⟩ 4 := ⟨ec_BadPiece, em_BadPiece, k0_BadPiece, k1_BadPiece, k2_BadPiece, k3_BadPiece, k4_BadPiece, k5_BadPiece, k6_BadPiece, kv_BadPiece⟩
  have kf_BadPiece : KndF K ⟨C_BadPart, C_BadCount, C_Lacks, C_BadPiece, C_BadLot, C_BadParts, C_BadText, C_KinError⟩ 4 "state" := ⟨kd_BadPiece, ⟨hg_BadPiece, hk_BadPiece, ex_BadPiece, hd_BadPiece⟩, nf_BadPiece⟩
  have ox_BadPiece : OexC K C_BadPiece := ⟨⟨_, _, _, _, _, _, _, _, _, _, _, _, _, _, _, xl_BadPiece, xr_BadPiece⟩, sa_BadPiece, ex_BadPiece, ty_BadPiece, kp_BadPiece⟩
  have F_BadPiece___init__ := fun_mk (st := s_BadPiece___init__) l_BadPiece___init__ c_BadPiece___init__ k_BadPiece___init__
  have fk : FlK K C_Parts C_Floor C_Lot C_Piece := ⟨cl_Parts, cl_Floor, cl_Lot, cl_Piece, n_Parts_rows, n_Parts_led, n_Floor_book, n_Floor_rates, n_Floor_lots, n_Floor_pieces, n_Floor_notes, n_Floor_spent, n_Floor_lost, n_Lot_part, n_Lot_left, n_Lot_price, n_Piece_part, n_Piece_state, n_Piece_at, n_Piece_cost, n_Piece_lots, n_Piece_pieces, n_Piece_above, n_Piece_client⟩
  have n_ValueError := PySem.W.mg_none_of X G z_ValueError
  have n_list := PySem.W.mg_none_of X G z_list
  have n_max := PySem.W.mg_none_of X G z_max
  have n_len := PySem.W.mg_none_of X G z_len
  have n_all := PySem.W.mg_none_of X G z_all
  have n_set := PySem.W.mg_none_of X G z_set
  have n_enumerate := PySem.W.mg_none_of X G z_enumerate
  have n_tuple := PySem.W.mg_none_of X G z_tuple
  have n_sum := PySem.W.mg_none_of X G z_sum
  have n_min := PySem.W.mg_none_of X G z_min
  have n_isinstance := PySem.W.mg_none_of X G z_isinstance
  have n_range := PySem.W.mg_none_of X G z_range
  have n_int := PySem.W.mg_none_of X G z_int
  have n_dict := PySem.W.mg_none_of X G z_dict
  refine ⟨PySem.W.fnOf "law" "law" (defArgs s_law) (defBody s_law) (defScope s_law) .none kV_law dc_law pm_law an_law (.ref ca_law) ct_law, [(ca_law, (ptIn K "law"))], spLaw K (ptIn K "law"), fun p hp => ?_, fun p hp => ?_, fun p hp => ?_, fun s v => .of_eq rfl, fun H a ns hlen hbits hT hS => ⟨a, ns, rfl, hS, hlen, hT _ (.head _), fun _ => rfl⟩, fun base _ _ TBs => ?_⟩
  · simp only [List.mem_cons, List.not_mem_nil, or_false] at hp
    rcases hp with rfl
    · exact (TT _ (.head _) _ _ tb_law).2
  · simp only [List.mem_cons, List.not_mem_nil, or_false] at hp
    rcases hp with rfl
    · exact nt_law
  · simp only [List.mem_cons, List.not_mem_nil, or_false] at hp
    rcases hp with rfl
    · exact (TT _ (.head _) _ _ tb_law).1
  have TB_law := TBs _ (.head _)
  have X_BadPart : ExK l.prog w K mg base "BadPart" C_BadPart "name" := ⟨ox_BadPart, mC_BadPart, _, _, _, oki_BadPart F_BadPart___init__ mC_KinError EB ox_BadPart nf_BadPart, a_BadPart___init__, beq_iff_eq.mp i_BadPart___init__, kbn1 fun _ _ => rfl⟩
  have X_Lacks : ExK l.prog w K mg base "Lacks" C_Lacks "name" := ⟨ox_Lacks, mC_Lacks, _, _, _, oki_Lacks F_Lacks___init__ mC_KinError EB ox_Lacks nf_Lacks, a_Lacks___init__, beq_iff_eq.mp i_Lacks___init__, kbn1 fun _ _ => rfl⟩
  have X_BadPiece : ExK l.prog w K mg base "BadPiece" C_BadPiece "state" := ⟨ox_BadPiece, mC_BadPiece, _, _, _, oki_BadPiece F_BadPiece___init__ mC_KinError EB ox_BadPiece nf_BadPiece, a_BadPiece___init__, beq_iff_eq.mp i_BadPiece___init__, kbn1 fun _ _ => rfl⟩
  have k1 := kf_BadPart
  have k2 := kd_BadCount
  have k3 := kf_Lacks
  have k4 := kf_BadPiece
  have KG : KindG K mg ⟨C_BadPart, C_BadCount, C_Lacks, C_BadPiece, C_BadLot, C_BadParts, C_BadText, C_KinError⟩ := ⟨⟨_, _, F__law_kind, m__law_kind, (F__law_kind.binds (ps := ["_law_call"]) fun _ _ _ _ _ _ us hl => match us, hl with | [_], _ => rfl)⟩, n_isinstance, n_ValueError, mC_KinError, gl_BadParts, gl_BadPart, gl_BadCount, gl_Lacks, gl_BadPiece, gl_BadLot, gl_BadText⟩
  have c_KinError : ∃ u, mg "KinError" = some u := ⟨_, mC_KinError⟩
  have G__law_mix : FnG l.prog w K mg base 1 "_law_mix" ["_law_script", "_law_seed"] (spMix K) := ⟨_, _, ok__law_mix F__law_mix n_list, m__law_mix, k__law_mix, (F__law_mix.binds (ps := ["_law_script", "_law_seed"]) fun _ _ _ _ _ _ us hl => match us, hl with | [_, _], _ => rfl)⟩
  have G__law_next : FnG l.prog w K mg base 1 "_law_next" ["_law_h", "_law_many"] spNext := ⟨_, _, ok__law_next F__law_next n_max n_len, m__law_next, k__law_next, (F__law_next.binds (ps := ["_law_h", "_law_many"]) fun _ _ _ _ _ _ us hl => match us, hl with | [_, _], _ => rfl)⟩
  have G_is_name : FnG l.prog w K mg base 1 "is_name" ["word"] spIsName := ⟨_, _, ok_is_name F_is_name n_len n_all c_MOST_SIGNS c_LETTERS, m_is_name, k_is_name, (F_is_name.binds (ps := ["word"]) fun _ _ _ _ _ _ us hl => match us, hl with | [_], _ => rfl)⟩
  have G_is_row : MtG l.prog w K mg base 2 C_Parts "is_row" ["self", "row"] (spIsRow K C_Parts) := ⟨_, _, ok_is_row F_Parts_is_row G_is_name cl_Parts n_Parts_rows n_len n_all n_set c_MOST_LOT c_MOST_LEAD c_MOST_NEED c_MOST_STEPS c_MACHINES c_MOST_MINUTES, ⟨a_Parts_is_row, i_Parts_is_row, k_Parts_is_row⟩, (F_Parts_is_row.binds (ps := ["self", "row"]) fun _ _ _ _ _ _ us hl => match us, hl with | [_, _], _ => rfl), cl_Parts⟩
  have G_led_to : MtG l.prog w K mg base 1 C_Parts "led_to" ["self", "needs"] (spLedTo K C_Parts) := ⟨_, _, ok_led_to F_Parts_led_to cl_Parts n_Parts_rows n_Parts_led, ⟨a_Parts_led_to, i_Parts_led_to, k_Parts_led_to⟩, (F_Parts_led_to.binds (ps := ["self", "needs"]) fun _ _ _ _ _ _ us hl => match us, hl with | [_, _], _ => rfl), cl_Parts⟩
  have G_Parts : MkG l.prog w K mg base 3 C_Parts "Parts" ["self", "told"] (spPInit K C_Parts) := ⟨_, _, ok_parts_init F_Parts___init__ G_is_row G_led_to cl_Parts n_Parts_rows n_Parts_led n_enumerate n_tuple n_sum c_MOST_PARTS c_MOST_LED, ⟨mk_Parts, a_Parts___init__, i_Parts___init__, kc_Parts⟩, mC_Parts, (F_Parts___init__.binds (ps := ["self", "told"]) fun _ _ _ _ _ _ us hl => match us, hl with | [_, _], _ => rfl)⟩
  have G_need_many : FnG l.prog w K mg base 1 "need_many" ["number", "low", "high"] spNeedMany := ⟨_, _, ok_need_many F_need_many, m_need_many, k_need_many, (F_need_many.binds (ps := ["number", "low", "high"]) fun _ _ _ _ _ _ us hl => match us, hl with | [_, _, _], _ => rfl)⟩
  have G_needs_of : MtG l.prog w K mg base 1 C_Parts "needs_of" ["self", "name"] (spNeedsOf K C_Parts) := ⟨_, _, ok_needs_of F_Parts_needs_of cl_Parts n_Parts_rows, ⟨a_Parts_needs_of, i_Parts_needs_of, k_Parts_needs_of⟩, (F_Parts_needs_of.binds (ps := ["self", "name"]) fun _ _ _ _ _ _ us hl => match us, hl with | [_, _], _ => rfl), cl_Parts⟩
  have G_steps_of : MtG l.prog w K mg base 1 C_Parts "steps_of" ["self", "name"] (spStepsOf K C_Parts) := ⟨_, _, ok_steps_of F_Parts_steps_of cl_Parts n_Parts_rows, ⟨a_Parts_steps_of, i_Parts_steps_of, k_Parts_steps_of⟩, (F_Parts_steps_of.binds (ps := ["self", "name"]) fun _ _ _ _ _ _ us hl => match us, hl with | [_, _], _ => rfl), cl_Parts⟩
  have G_is_bought : MtG l.prog w K mg base 2 C_Parts "is_bought" ["self", "name"] (spIsBought K C_Parts) := ⟨_, _, ok_is_bought F_Parts_is_bought G_needs_of G_steps_of cl_Parts, ⟨a_Parts_is_bought, i_Parts_is_bought, k_Parts_is_bought⟩, (F_Parts_is_bought.binds (ps := ["self", "name"]) fun _ _ _ _ _ _ us hl => match us, hl with | [_, _], _ => rfl), cl_Parts⟩
  have G_need_part : MtG l.prog w K mg base 1 C_Parts "need_part" ["self", "name"] (spNeedPart K C_Parts) := ⟨_, _, ok_need_part F_Parts_need_part cl_Parts n_Parts_rows, ⟨a_Parts_need_part, i_Parts_need_part, k_Parts_need_part⟩, (F_Parts_need_part.binds (ps := ["self", "name"]) fun _ _ _ _ _ _ us hl => match us, hl with | [_, _], _ => rfl), cl_Parts⟩
  have G_Piece : MkG l.prog w K mg base 1 C_Piece "Piece" ["self", "part"] (spPieceI C_Piece) := ⟨_, _, ok_piece_init F_Piece___init__ fk c_MAKING, ⟨mk_Piece, a_Piece___init__, i_Piece___init__, kc_Piece⟩, mC_Piece, (F_Piece___init__.binds (ps := ["self", "part"]) fun _ _ _ _ _ _ us hl => match us, hl with | [_, _], _ => rfl)⟩
  have G_Floor : MkG l.prog w K mg base 5 C_Floor "Floor" ["self", "parts", "rates"] (spFInit K C_Parts C_Floor C_Lot C_Piece) := ⟨_, _, ok_floor_init F_Floor___init__ G_Parts G_need_many fk n_len n_tuple c_MACHINES c_MOST_RATE, ⟨mk_Floor, a_Floor___init__, i_Floor___init__, kc_Floor⟩, mC_Floor, (F_Floor___init__.binds (ps := ["self", "parts", "rates"]) fun _ _ _ _ _ _ us hl => match us, hl with | [_, _, _], _ => rfl)⟩
  have G_piece : MtG l.prog w K mg base 1 C_Floor "piece" ["self", "number", "states"] (spPiece K C_Floor C_Piece) := ⟨_, _, ok_piece F_Floor_piece fk n_len, ⟨a_Floor_piece, i_Floor_piece, k_Floor_piece⟩, (F_Floor_piece.binds (ps := ["self", "number", "states"]) fun _ _ _ _ _ _ us hl => match us, hl with | [_, _, _], _ => rfl), cl_Floor⟩
  have G_work : MtG l.prog w K mg base 2 C_Floor "work" ["self", "number"] (spWork K C_Parts C_Floor C_Lot C_Piece) := ⟨_, _, ok_work F_Floor_work G_piece G_steps_of fk n_len c_MAKING c_MADE, ⟨a_Floor_work, i_Floor_work, k_Floor_work⟩, (F_Floor_work.binds (ps := ["self", "number"]) fun _ _ _ _ _ _ us hl => match us, hl with | [_, _], _ => rfl), cl_Floor⟩
  have G_test : MtG l.prog w K mg base 2 C_Floor "test" ["self", "number", "good"] (spTest K C_Parts C_Floor C_Lot C_Piece) := ⟨_, _, ok_test F_Floor_test G_piece fk c_MADE c_STOCK c_BAD, ⟨a_Floor_test, i_Floor_test, k_Floor_test⟩, (F_Floor_test.binds (ps := ["self", "number", "good"]) fun _ _ _ _ _ _ us hl => match us, hl with | [_, _, _], _ => rfl), cl_Floor⟩
  have G_scrap : MtG l.prog w K mg base 2 C_Floor "scrap" ["self", "number"] (spScrap K C_Parts C_Floor C_Lot C_Piece) := ⟨_, _, ok_scrap F_Floor_scrap G_piece fk c_HOUSE hTH c_SCRAP, ⟨a_Floor_scrap, i_Floor_scrap, k_Floor_scrap⟩, (F_Floor_scrap.binds (ps := ["self", "number"]) fun _ _ _ _ _ _ us hl => match us, hl with | [_, _], _ => rfl), cl_Floor⟩
  have G_state_of : MtG l.prog w K mg base 2 C_Floor "state_of" ["self", "number"] (spStateOf K C_Parts C_Floor C_Lot C_Piece) := ⟨_, _, ok_state_of F_Floor_state_of G_piece fk c_HOUSE hTH c_WITHIN c_SOLD c_SCRAP c_STRIPPED, ⟨a_Floor_state_of, i_Floor_state_of, k_Floor_state_of⟩, (F_Floor_state_of.binds (ps := ["self", "number"]) fun _ _ _ _ _ _ us hl => match us, hl with | [_, _], _ => rfl), cl_Floor⟩
  have G_lots_for : MtG l.prog w K mg base 1 C_Floor "lots_for" ["self", "part", "many"] (spLotsFor K C_Floor C_Lot C_Piece) := ⟨_, _, ok_lots_for F_Floor_lots_for fk n_enumerate n_min, ⟨a_Floor_lots_for, i_Floor_lots_for, k_Floor_lots_for⟩, (F_Floor_lots_for.binds (ps := ["self", "part", "many"]) fun _ _ _ _ _ _ us hl => match us, hl with | [_, _, _], _ => rfl), cl_Floor⟩
  have G_pieces_for : MtG l.prog w K mg base 1 C_Floor "pieces_for" ["self", "part", "many"] (spPiecesFor K C_Floor C_Lot C_Piece) := ⟨_, _, ok_pieces_for F_Floor_pieces_for fk n_enumerate n_len c_STOCK, ⟨a_Floor_pieces_for, i_Floor_pieces_for, k_Floor_pieces_for⟩, (F_Floor_pieces_for.binds (ps := ["self", "part", "many"]) fun _ _ _ _ _ _ us hl => match us, hl with | [_, _, _], _ => rfl), cl_Floor⟩
  have G_hold : MtG l.prog w K mg base 1 C_Floor "hold" ["self", "number", "piece", "other"] (spHold C_Floor C_Lot C_Piece) := ⟨_, _, ok_hold F_Floor_hold fk c_WITHIN, ⟨a_Floor_hold, i_Floor_hold, k_Floor_hold⟩, (F_Floor_hold.binds (ps := ["self", "number", "piece", "other"]) fun _ _ _ _ _ _ us hl => match us, hl with | [_, _, _, _], _ => rfl), cl_Floor⟩
  have G_put_in : MtG l.prog w K mg base 2 C_Floor "put_in" ["self", "number", "piece", "some"] (spPutIn K C_Floor C_Lot C_Piece) := ⟨_, _, ok_put_in F_Floor_put_in G_hold fk n_isinstance n_list, ⟨a_Floor_put_in, i_Floor_put_in, k_Floor_put_in⟩, (F_Floor_put_in.binds (ps := ["self", "number", "piece", "some"]) fun _ _ _ _ _ _ us hl => match us, hl with | [_, _, _, _], _ => rfl), cl_Floor⟩
  have G_begin : MtG l.prog w K mg base 3 C_Floor "begin" ["self", "part"] (spBegin K C_Parts C_Floor C_Lot C_Piece) := ⟨_, _, ok_begin F_Floor_begin G_need_part G_is_bought G_needs_of G_steps_of G_lots_for G_pieces_for G_Piece G_put_in fk n_len c_MADE, ⟨a_Floor_begin, i_Floor_begin, k_Floor_begin⟩, (F_Floor_begin.binds (ps := ["self", "part"]) fun _ _ _ _ _ _ us hl => match us, hl with | [_, _], _ => rfl), cl_Floor⟩
  have G_Lot : MkG l.prog w K mg base 1 C_Lot "Lot" ["self", "part", "left", "price"] (spLotI C_Lot) := ⟨_, _, ok_lot_init F_Lot___init__ fk, ⟨mk_Lot, a_Lot___init__, i_Lot___init__, kc_Lot⟩, mC_Lot, (F_Lot___init__.binds (ps := ["self", "part", "left", "price"]) fun _ _ _ _ _ _ us hl => match us, hl with | [_, _, _, _], _ => rfl)⟩
  have G_buy : MtG l.prog w K mg base 3 C_Floor "buy" ["self", "part", "many", "price"] (spBuy K C_Parts C_Floor C_Lot C_Piece) := ⟨_, _, ok_buy F_Floor_buy G_need_part G_is_bought G_need_many G_Lot fk n_len c_MOST_MANY c_MOST_PRICE, ⟨a_Floor_buy, i_Floor_buy, k_Floor_buy⟩, (F_Floor_buy.binds (ps := ["self", "part", "many", "price"]) fun _ _ _ _ _ _ us hl => match us, hl with | [_, _, _, _], _ => rfl), cl_Floor⟩
  have G_at_hand : MtG l.prog w K mg base 3 C_Floor "at_hand" ["self", "part"] (spAtHand K C_Parts C_Floor C_Lot C_Piece) := ⟨_, _, ok_at_hand F_Floor_at_hand G_need_part G_is_bought fk n_len n_sum c_STOCK, ⟨a_Floor_at_hand, i_Floor_at_hand, k_Floor_at_hand⟩, (F_Floor_at_hand.binds (ps := ["self", "part"]) fun _ _ _ _ _ _ us hl => match us, hl with | [_, _], _ => rfl), cl_Floor⟩
  have G_places : FnG l.prog w K mg base 1 "places" ["floor"] (spPlaces K C_Parts C_Floor C_Lot C_Piece) := ⟨_, _, ok_places F_places fk n_sum c_LOTS c_WORK c_STOCK c_SOLD c_SCRAP c_LOST c_PLACES hPL, m_places, k_places, (F_places.binds (ps := ["floor"]) fun _ _ _ _ _ _ us hl => match us, hl with | [_], _ => rfl)⟩
  have G_book_of : MtG l.prog w K mg base 1 C_Floor "book_of" ["self"] (spBookOf C_Floor C_Lot C_Piece) := ⟨_, _, ok_book_of F_Floor_book_of fk n_list, ⟨a_Floor_book_of, i_Floor_book_of, k_Floor_book_of⟩, (F_Floor_book_of.binds (ps := ["self"]) fun _ _ _ _ _ _ us hl => match us, hl with | [_], _ => rfl), cl_Floor⟩
  have G_lot : MtG l.prog w K mg base 1 C_Floor "lot" ["self", "number"] (spLotAt C_Floor C_Lot C_Piece) := ⟨_, _, ok_lot F_Floor_lot fk n_len, ⟨a_Floor_lot, i_Floor_lot, k_Floor_lot⟩, (F_Floor_lot.binds (ps := ["self", "number"]) fun _ _ _ _ _ _ us hl => match us, hl with | [_, _], _ => rfl), cl_Floor⟩
  have GX_need_many := (⟨_, _, okX_need_many F_need_many X_BadCount, m_need_many, k_need_many, (F_need_many.binds (ps := ["number", "low", "high"]) fun _ _ _ _ _ _ us hl => match us, hl with | [_, _, _], _ => rfl)⟩ : FnGX l.prog w K mg base 1 "need_many" ["number", "low", "high"] _)
  have GX_need_part := (⟨_, _, okX_need_part F_Parts_need_part cl_Parts n_Parts_rows X_BadPart, ⟨a_Parts_need_part, i_Parts_need_part, k_Parts_need_part⟩, (F_Parts_need_part.binds (ps := ["self", "name"]) fun _ _ _ _ _ _ us hl => match us, hl with | [_, _], _ => rfl), cl_Parts⟩ : MtGX l.prog w K mg base 3 C_Parts "need_part" ["self", "name"] _)
  have GX_piece := (⟨_, _, okX_piece F_Floor_piece fk n_len X_BadPiece, ⟨a_Floor_piece, i_Floor_piece, k_Floor_piece⟩, (F_Floor_piece.binds (ps := ["self", "number", "states"]) fun _ _ _ _ _ _ us hl => match us, hl with | [_, _, _], _ => rfl), cl_Floor⟩ : MtGX l.prog w K mg base 3 C_Floor "piece" ["self", "number", "states"] _)
  have GX_work := (⟨_, _, okR_work (X := ⟨C_BadPart, C_BadCount, C_Lacks, C_BadPiece, C_BadLot, C_BadParts, C_BadText, C_KinError⟩) F_Floor_work GX_piece fk c_MAKING, ⟨a_Floor_work, i_Floor_work, k_Floor_work⟩, (F_Floor_work.binds (ps := ["self", "number"]) fun _ _ _ _ _ _ us hl => match us, hl with | [_, _], _ => rfl), cl_Floor⟩ : MtGX l.prog w K mg base 4 C_Floor "work" ["self", "number"] _)
  have GX_test := (⟨_, _, okR_test (X := ⟨C_BadPart, C_BadCount, C_Lacks, C_BadPiece, C_BadLot, C_BadParts, C_BadText, C_KinError⟩) F_Floor_test GX_piece fk c_MADE c_STOCK, ⟨a_Floor_test, i_Floor_test, k_Floor_test⟩, (F_Floor_test.binds (ps := ["self", "number", "good"]) fun _ _ _ _ _ _ us hl => match us, hl with | [_, _, _], _ => rfl), cl_Floor⟩ : MtGX l.prog w K mg base 4 C_Floor "test" ["self", "number", "good"] _)
  have GX_scrap := (⟨_, _, okR_scrap (X := ⟨C_BadPart, C_BadCount, C_Lacks, C_BadPiece, C_BadLot, C_BadParts, C_BadText, C_KinError⟩) F_Floor_scrap GX_piece fk c_HOUSE hTH, ⟨a_Floor_scrap, i_Floor_scrap, k_Floor_scrap⟩, (F_Floor_scrap.binds (ps := ["self", "number"]) fun _ _ _ _ _ _ us hl => match us, hl with | [_, _], _ => rfl), cl_Floor⟩ : MtGX l.prog w K mg base 4 C_Floor "scrap" ["self", "number"] _)
  have GX_state_of := (⟨_, _, okR_state_of (X := ⟨C_BadPart, C_BadCount, C_Lacks, C_BadPiece, C_BadLot, C_BadParts, C_BadText, C_KinError⟩) F_Floor_state_of GX_piece fk c_HOUSE hTH c_WITHIN c_SOLD c_SCRAP c_STRIPPED, ⟨a_Floor_state_of, i_Floor_state_of, k_Floor_state_of⟩, (F_Floor_state_of.binds (ps := ["self", "number"]) fun _ _ _ _ _ _ us hl => match us, hl with | [_, _], _ => rfl), cl_Floor⟩ : MtGX l.prog w K mg base 4 C_Floor "state_of" ["self", "number"] _)
  have GB_lots_for : MtG l.prog w K mg base 1 C_Floor "lots_for" ["self", "part", "many"] (spLotsForB K C_Floor C_Lot C_Piece) := ⟨_, _, FnOk.orK (ok_lots_for F_Floor_lots_for fk n_enumerate n_min) (ok_lots_forN F_Floor_lots_for fk n_enumerate n_min) (Nat.le_refl _), ⟨a_Floor_lots_for, i_Floor_lots_for, k_Floor_lots_for⟩, (F_Floor_lots_for.binds (ps := ["self", "part", "many"]) fun _ _ _ _ _ _ us hl => match us, hl with | [_, _, _], _ => rfl), cl_Floor⟩
  have GB_pieces_for : MtG l.prog w K mg base 1 C_Floor "pieces_for" ["self", "part", "many"] (spPiecesForB K C_Floor C_Lot C_Piece) := ⟨_, _, FnOk.orK (ok_pieces_for F_Floor_pieces_for fk n_enumerate n_len c_STOCK) (ok_pieces_forN F_Floor_pieces_for fk n_enumerate n_len c_STOCK) (Nat.le_refl _), ⟨a_Floor_pieces_for, i_Floor_pieces_for, k_Floor_pieces_for⟩, (F_Floor_pieces_for.binds (ps := ["self", "part", "many"]) fun _ _ _ _ _ _ us hl => match us, hl with | [_, _, _], _ => rfl), cl_Floor⟩
  have GX_buy := (⟨_, _, okR_buy (X := ⟨C_BadPart, C_BadCount, C_Lacks, C_BadPiece, C_BadLot, C_BadParts, C_BadText, C_KinError⟩) F_Floor_buy GX_need_part GX_need_many X_BadPart G_is_bought fk c_MOST_MANY c_MOST_PRICE, ⟨a_Floor_buy, i_Floor_buy, k_Floor_buy⟩, (F_Floor_buy.binds (ps := ["self", "part", "many", "price"]) fun _ _ _ _ _ _ us hl => match us, hl with | [_, _, _, _], _ => rfl), cl_Floor⟩ : MtGX l.prog w K mg base 4 C_Floor "buy" ["self", "part", "many", "price"] _)
  have GX_begin := (⟨_, _, okR_begin (X := ⟨C_BadPart, C_BadCount, C_Lacks, C_BadPiece, C_BadLot, C_BadParts, C_BadText, C_KinError⟩) F_Floor_begin GX_need_part X_BadPart X_Lacks G_is_bought G_needs_of GB_lots_for GB_pieces_for fk, ⟨a_Floor_begin, i_Floor_begin, k_Floor_begin⟩, (F_Floor_begin.binds (ps := ["self", "part"]) fun _ _ _ _ _ _ us hl => match us, hl with | [_, _], _ => rfl), cl_Floor⟩ : MtGX l.prog w K mg base 4 C_Floor "begin" ["self", "part"] _)
  exact ok_law (X := ⟨C_BadPart, C_BadCount, C_Lacks, C_BadPiece, C_BadLot, C_BadParts, C_BadText, C_KinError⟩) F_law TB_law KG k3 G__law_mix G__law_next G_Floor G_buy G_begin GX_begin G_work G_test G_at_hand G_state_of G_book_of G_places n_range n_tuple n_int n_max n_dict
end LW

open PySem PySem.W PyProof.Rows
set_option maxRecDepth 100000 in
set_option maxHeartbeats 0 in
theorem PySem.Challenge.cw_partkin_k12_lacks_take_nothing_holds : PySem.Challenge.rw_partkin_k12_lacks_take_nothing.Holds := by
  w_on; o_law; k_head; (case hw => w_witness2)
  k_fill
  refine WK.walk_ofTabs (l := PySem.Challenge.rw_partkin_k12_lacks_take_nothing) (n := 63) (k := 15) (x := "_law_script") ["law"] rfl (by decide) rfl ⟨rfl, by decide, by decide⟩ (by decide +kernel) (fun w h Y => PySem.W.km_in_of Y) ?F
  case F =>
    intro w mg fa h KX G hmg TT
    refine' LW.all_mk KX G hmg ?a__law_mix ?l__law_mix ?c__law_mix ?k__law_mix ?a__law_next ?l__law_next ?c__law_next ?k__law_next ?a_is_name ?l_is_name ?c_is_name ?k_is_name ?a_need_many ?l_need_many ?c_need_many ?k_need_many ?a_places ?l_places ?c_places ?k_places ?a_law ?l_law ?c_law ?tb_law ?nt_law ?k_law ?a__law_kind ?l__law_kind ?c__law_kind ?k__law_kind ?aC_Parts ?a_Parts_is_row ?i_Parts_is_row ?l_Parts_is_row ?c_Parts_is_row ?k_Parts_is_row ?a_Parts_led_to ?i_Parts_led_to ?l_Parts_led_to ?c_Parts_led_to ?k_Parts_led_to ?a_Parts___init__ ?i_Parts___init__ ?l_Parts___init__ ?c_Parts___init__ ?k_Parts___init__ ?a_Parts_needs_of ?i_Parts_needs_of ?l_Parts_needs_of ?c_Parts_needs_of ?k_Parts_needs_of ?a_Parts_steps_of ?i_Parts_steps_of ?l_Parts_steps_of ?c_Parts_steps_of ?k_Parts_steps_of ?a_Parts_is_bought ?i_Parts_is_bought ?l_Parts_is_bought ?c_Parts_is_bought ?k_Parts_is_bought ?a_Parts_need_part ?i_Parts_need_part ?l_Parts_need_part ?c_Parts_need_part ?k_Parts_need_part ?pg_Parts ?hd_Parts ?po_Parts ?sa_Parts ?mk_Parts ?kc_Parts ?n_Parts_rows ?n_Parts_led ?aC_Floor ?a_Floor___init__ ?i_Floor___init__ ?l_Floor___init__ ?c_Floor___init__ ?k_Floor___init__ ?a_Floor_piece ?i_Floor_piece ?l_Floor_piece ?c_Floor_piece ?k_Floor_piece ?a_Floor_work ?i_Floor_work ?l_Floor_work ?c_Floor_work ?k_Floor_work ?a_Floor_test ?i_Floor_test ?l_Floor_test ?c_Floor_test ?k_Floor_test ?a_Floor_scrap ?i_Floor_scrap ?l_Floor_scrap ?c_Floor_scrap ?k_Floor_scrap ?a_Floor_state_of ?i_Floor_state_of ?l_Floor_state_of ?c_Floor_state_of ?k_Floor_state_of ?a_Floor_lots_for ?i_Floor_lots_for ?l_Floor_lots_for ?c_Floor_lots_for ?k_Floor_lots_for ?a_Floor_pieces_for ?i_Floor_pieces_for ?l_Floor_pieces_for ?c_Floor_pieces_for ?k_Floor_pieces_for ?a_Floor_hold ?i_Floor_hold ?l_Floor_hold ?c_Floor_hold ?k_Floor_hold ?a_Floor_put_in ?i_Floor_put_in ?l_Floor_put_in ?c_Floor_put_in ?k_Floor_put_in ?a_Floor_begin ?i_Floor_begin ?l_Floor_begin ?c_Floor_begin ?k_Floor_begin ?a_Floor_buy ?i_Floor_buy ?l_Floor_buy ?c_Floor_buy ?k_Floor_buy ?a_Floor_at_hand ?i_Floor_at_hand ?l_Floor_at_hand ?c_Floor_at_hand ?k_Floor_at_hand ?a_Floor_book_of ?i_Floor_book_of ?l_Floor_book_of ?c_Floor_book_of ?k_Floor_book_of ?a_Floor_lot ?i_Floor_lot ?l_Floor_lot ?c_Floor_lot ?k_Floor_lot ?pg_Floor ?hd_Floor ?po_Floor ?sa_Floor ?mk_Floor ?kc_Floor ?n_Floor_book ?n_Floor_rates ?n_Floor_lots ?n_Floor_pieces ?n_Floor_notes ?n_Floor_spent ?n_Floor_lost ?aC_Lot ?a_Lot___init__ ?i_Lot___init__ ?l_Lot___init__ ?c_Lot___init__ ?k_Lot___init__ ?pg_Lot ?hd_Lot ?po_Lot ?sa_Lot ?mk_Lot ?kc_Lot ?n_Lot_part ?n_Lot_left ?n_Lot_price ?aC_Piece ?a_Piece___init__ ?i_Piece___init__ ?l_Piece___init__ ?c_Piece___init__ ?k_Piece___init__ ?pg_Piece ?hd_Piece ?po_Piece ?sa_Piece ?mk_Piece ?kc_Piece ?n_Piece_part ?n_Piece_state ?n_Piece_at ?n_Piece_cost ?n_Piece_lots ?n_Piece_pieces ?n_Piece_above ?n_Piece_client ?g_MOST_SIGNS ?g_MOST_LOT ?g_MOST_LEAD ?g_MOST_NEED ?g_MOST_STEPS ?g_MACHINES ?g_MOST_MINUTES ?g_MOST_PARTS ?g_MOST_LED ?g_MOST_RATE ?g_MOST_MANY ?g_MOST_PRICE ?g_LETTERS ?g_MAKING ?g_MADE ?g_STOCK ?g_BAD ?g_SCRAP ?g_WITHIN ?g_SOLD ?g_STRIPPED ?g_LOTS ?g_WORK ?g_LOST ?g_HOUSE ?t_HOUSE ?g_PLACES ?t_PLACES ?kl_PLACES ?lo_PLACES ?p_PLACES_making ?p_PLACES_made ?p_PLACES_bad ?p_PLACES_stock ?p_PLACES_within ?p_PLACES_sold ?p_PLACES_scrap ?p_PLACES_stripped ?aC_BadParts ?aC_BadPart ?aC_BadCount ?aC_Lacks ?aC_BadPiece ?aC_BadLot ?aC_BadText ?aC_KinError ?s_KE ?r_KE ?v_KE ?xn ?xt ?ex_BadPart ?ty_BadPart ?kp_BadPart ?hg_BadPart ?hk_BadPart ?hd_BadPart ?ha_BadPart ?hm_BadPart ?em_BadPart ?k0_BadPart ?k1_BadPart ?k2_BadPart ?k3_BadPart ?k4_BadPart ?k5_BadPart ?k6_BadPart ?kv_BadPart ?nf_BadPart ?xl_BadPart ?xr_BadPart ?sa_BadPart ?a_BadPart___init__ ?i_BadPart___init__ ?l_BadPart___init__ ?c_BadPart___init__ ?k_BadPart___init__ ?ex_BadCount ?ty_BadCount ?kp_BadCount ?hg_BadCount ?hk_BadCount ?hd_BadCount ?ha_BadCount ?hm_BadCount ?em_BadCount ?k0_BadCount ?k1_BadCount ?k2_BadCount ?k3_BadCount ?k4_BadCount ?k5_BadCount ?k6_BadCount ?kv_BadCount ?xe_BadCount ?ex_Lacks ?ty_Lacks ?kp_Lacks ?hg_Lacks ?hk_Lacks ?hd_Lacks ?ha_Lacks ?hm_Lacks ?em_Lacks ?k0_Lacks ?k1_Lacks ?k2_Lacks ?k3_Lacks ?k4_Lacks ?k5_Lacks ?k6_Lacks ?kv_Lacks ?nf_Lacks ?xl_Lacks ?xr_Lacks ?sa_Lacks ?a_Lacks___init__ ?i_Lacks___init__ ?l_Lacks___init__ ?c_Lacks___init__ ?k_Lacks___init__ ?ex_BadPiece ?ty_BadPiece ?kp_BadPiece ?hg_BadPiece ?hk_BadPiece ?hd_BadPiece ?ha_BadPiece ?hm_BadPiece ?em_BadPiece ?k0_BadPiece ?k1_BadPiece ?k2_BadPiece ?k3_BadPiece ?k4_BadPiece ?k5_BadPiece ?k6_BadPiece ?kv_BadPiece ?nf_BadPiece ?xl_BadPiece ?xr_BadPiece ?sa_BadPiece ?a_BadPiece___init__ ?i_BadPiece___init__ ?l_BadPiece___init__ ?c_BadPiece___init__ ?k_BadPiece___init__ ?z_ValueError ?z_list ?z_max ?z_len ?z_all ?z_set ?z_enumerate ?z_tuple ?z_sum ?z_min ?z_isinstance ?z_range ?z_int ?z_dict TT
    (case a__law_mix => k_is)
    (case l__law_mix => k_is)
    (case c__law_mix => k_is)
    (case k__law_mix => k_is)
    (case a__law_next => k_is)
    (case l__law_next => k_is)
    (case c__law_next => k_is)
    (case k__law_next => k_is)
    (case a_is_name => k_is)
    (case l_is_name => k_is)
    (case c_is_name => k_is)
    (case k_is_name => k_is)
    (case a_need_many => k_is)
    (case l_need_many => k_is)
    (case c_need_many => k_is)
    (case k_need_many => k_is)
    (case a_places => k_is)
    (case l_places => k_is)
    (case c_places => k_is)
    (case k_places => k_is)
    (case a_law => k_is)
    (case l_law => k_is)
    (case c_law => k_is)
    (case tb_law => kernel_rfl)
    (case nt_law => kernel_rfl)
    (case k_law => k_is)
    (case a__law_kind => k_is)
    (case l__law_kind => k_is)
    (case c__law_kind => k_is)
    (case k__law_kind => k_is)
    (case aC_Parts => k_is)
    (case a_Parts_is_row => k_is)
    (case i_Parts_is_row => k_is)
    (case l_Parts_is_row => k_is)
    (case c_Parts_is_row => k_is)
    (case k_Parts_is_row => k_is)
    (case a_Parts_led_to => k_is)
    (case i_Parts_led_to => k_is)
    (case l_Parts_led_to => k_is)
    (case c_Parts_led_to => k_is)
    (case k_Parts_led_to => k_is)
    (case a_Parts___init__ => k_is)
    (case i_Parts___init__ => k_is)
    (case l_Parts___init__ => k_is)
    (case c_Parts___init__ => k_is)
    (case k_Parts___init__ => k_is)
    (case a_Parts_needs_of => k_is)
    (case i_Parts_needs_of => k_is)
    (case l_Parts_needs_of => k_is)
    (case c_Parts_needs_of => k_is)
    (case k_Parts_needs_of => k_is)
    (case a_Parts_steps_of => k_is)
    (case i_Parts_steps_of => k_is)
    (case l_Parts_steps_of => k_is)
    (case c_Parts_steps_of => k_is)
    (case k_Parts_steps_of => k_is)
    (case a_Parts_is_bought => k_is)
    (case i_Parts_is_bought => k_is)
    (case l_Parts_is_bought => k_is)
    (case c_Parts_is_bought => k_is)
    (case k_Parts_is_bought => k_is)
    (case a_Parts_need_part => k_is)
    (case i_Parts_need_part => k_is)
    (case l_Parts_need_part => k_is)
    (case c_Parts_need_part => k_is)
    (case k_Parts_need_part => k_is)
    (case pg_Parts => k_is)
    (case hd_Parts => k_is)
    (case po_Parts => k_is)
    (case sa_Parts => k_is)
    (case mk_Parts => k_is)
    (case kc_Parts => k_is)
    (case n_Parts_rows => k_is)
    (case n_Parts_led => k_is)
    (case aC_Floor => k_is)
    (case a_Floor___init__ => k_is)
    (case i_Floor___init__ => k_is)
    (case l_Floor___init__ => k_is)
    (case c_Floor___init__ => k_is)
    (case k_Floor___init__ => k_is)
    (case a_Floor_piece => k_is)
    (case i_Floor_piece => k_is)
    (case l_Floor_piece => k_is)
    (case c_Floor_piece => k_is)
    (case k_Floor_piece => k_is)
    (case a_Floor_work => k_is)
    (case i_Floor_work => k_is)
    (case l_Floor_work => k_is)
    (case c_Floor_work => k_is)
    (case k_Floor_work => k_is)
    (case a_Floor_test => k_is)
    (case i_Floor_test => k_is)
    (case l_Floor_test => k_is)
    (case c_Floor_test => k_is)
    (case k_Floor_test => k_is)
    (case a_Floor_scrap => k_is)
    (case i_Floor_scrap => k_is)
    (case l_Floor_scrap => k_is)
    (case c_Floor_scrap => k_is)
    (case k_Floor_scrap => k_is)
    (case a_Floor_state_of => k_is)
    (case i_Floor_state_of => k_is)
    (case l_Floor_state_of => k_is)
    (case c_Floor_state_of => k_is)
    (case k_Floor_state_of => k_is)
    (case a_Floor_lots_for => k_is)
    (case i_Floor_lots_for => k_is)
    (case l_Floor_lots_for => k_is)
    (case c_Floor_lots_for => k_is)
    (case k_Floor_lots_for => k_is)
    (case a_Floor_pieces_for => k_is)
    (case i_Floor_pieces_for => k_is)
    (case l_Floor_pieces_for => k_is)
    (case c_Floor_pieces_for => k_is)
    (case k_Floor_pieces_for => k_is)
    (case a_Floor_hold => k_is)
    (case i_Floor_hold => k_is)
    (case l_Floor_hold => k_is)
    (case c_Floor_hold => k_is)
    (case k_Floor_hold => k_is)
    (case a_Floor_put_in => k_is)
    (case i_Floor_put_in => k_is)
    (case l_Floor_put_in => k_is)
    (case c_Floor_put_in => k_is)
    (case k_Floor_put_in => k_is)
    (case a_Floor_begin => k_is)
    (case i_Floor_begin => k_is)
    (case l_Floor_begin => k_is)
    (case c_Floor_begin => k_is)
    (case k_Floor_begin => k_is)
    (case a_Floor_buy => k_is)
    (case i_Floor_buy => k_is)
    (case l_Floor_buy => k_is)
    (case c_Floor_buy => k_is)
    (case k_Floor_buy => k_is)
    (case a_Floor_at_hand => k_is)
    (case i_Floor_at_hand => k_is)
    (case l_Floor_at_hand => k_is)
    (case c_Floor_at_hand => k_is)
    (case k_Floor_at_hand => k_is)
    (case a_Floor_book_of => k_is)
    (case i_Floor_book_of => k_is)
    (case l_Floor_book_of => k_is)
    (case c_Floor_book_of => k_is)
    (case k_Floor_book_of => k_is)
    (case a_Floor_lot => k_is)
    (case i_Floor_lot => k_is)
    (case l_Floor_lot => k_is)
    (case c_Floor_lot => k_is)
    (case k_Floor_lot => k_is)
    (case pg_Floor => k_is)
    (case hd_Floor => k_is)
    (case po_Floor => k_is)
    (case sa_Floor => k_is)
    (case mk_Floor => k_is)
    (case kc_Floor => k_is)
    (case n_Floor_book => k_is)
    (case n_Floor_rates => k_is)
    (case n_Floor_lots => k_is)
    (case n_Floor_pieces => k_is)
    (case n_Floor_notes => k_is)
    (case n_Floor_spent => k_is)
    (case n_Floor_lost => k_is)
    (case aC_Lot => k_is)
    (case a_Lot___init__ => k_is)
    (case i_Lot___init__ => k_is)
    (case l_Lot___init__ => k_is)
    (case c_Lot___init__ => k_is)
    (case k_Lot___init__ => k_is)
    (case pg_Lot => k_is)
    (case hd_Lot => k_is)
    (case po_Lot => k_is)
    (case sa_Lot => k_is)
    (case mk_Lot => k_is)
    (case kc_Lot => k_is)
    (case n_Lot_part => k_is)
    (case n_Lot_left => k_is)
    (case n_Lot_price => k_is)
    (case aC_Piece => k_is)
    (case a_Piece___init__ => k_is)
    (case i_Piece___init__ => k_is)
    (case l_Piece___init__ => k_is)
    (case c_Piece___init__ => k_is)
    (case k_Piece___init__ => k_is)
    (case pg_Piece => k_is)
    (case hd_Piece => k_is)
    (case po_Piece => k_is)
    (case sa_Piece => k_is)
    (case mk_Piece => k_is)
    (case kc_Piece => k_is)
    (case n_Piece_part => k_is)
    (case n_Piece_state => k_is)
    (case n_Piece_at => k_is)
    (case n_Piece_cost => k_is)
    (case n_Piece_lots => k_is)
    (case n_Piece_pieces => k_is)
    (case n_Piece_above => k_is)
    (case n_Piece_client => k_is)
    (case g_MOST_SIGNS => k_is)
    (case g_MOST_LOT => k_is)
    (case g_MOST_LEAD => k_is)
    (case g_MOST_NEED => k_is)
    (case g_MOST_STEPS => k_is)
    (case g_MACHINES => k_is)
    (case g_MOST_MINUTES => k_is)
    (case g_MOST_PARTS => k_is)
    (case g_MOST_LED => k_is)
    (case g_MOST_RATE => k_is)
    (case g_MOST_MANY => k_is)
    (case g_MOST_PRICE => k_is)
    (case g_LETTERS => k_is)
    (case g_MAKING => k_is)
    (case g_MADE => k_is)
    (case g_STOCK => k_is)
    (case g_BAD => k_is)
    (case g_SCRAP => k_is)
    (case g_WITHIN => k_is)
    (case g_SOLD => k_is)
    (case g_STRIPPED => k_is)
    (case g_LOTS => k_is)
    (case g_WORK => k_is)
    (case g_LOST => k_is)
    (case g_HOUSE => k_is)
    (case t_HOUSE => k_is)
    (case g_PLACES => k_is)
    (case t_PLACES => k_is)
    (case kl_PLACES => k_keys)
    (case lo_PLACES => decide)
    (case p_PLACES_making => k_is)
    (case p_PLACES_made => k_is)
    (case p_PLACES_bad => k_is)
    (case p_PLACES_stock => k_is)
    (case p_PLACES_within => k_is)
    (case p_PLACES_sold => k_is)
    (case p_PLACES_scrap => k_is)
    (case p_PLACES_stripped => k_is)
    (case aC_BadParts => k_is)
    (case aC_BadPart => k_is)
    (case aC_BadCount => k_is)
    (case aC_Lacks => k_is)
    (case aC_BadPiece => k_is)
    (case aC_BadLot => k_is)
    (case aC_BadText => k_is)
    (case aC_KinError => k_is)
    (case s_KE => k_is)
    (case r_KE => k_is)
    (case v_KE => k_is)
    (case xn => k_is)
    (case xt => k_is)
    (case ex_BadPart => k_is)
    (case ty_BadPart => k_is)
    (case kp_BadPart => k_is)
    (case hg_BadPart => k_is)
    (case hk_BadPart => k_is)
    (case hd_BadPart => k_is)
    (case ha_BadPart => k_is)
    (case hm_BadPart => k_is)
    (case em_BadPart => kernel_rfl)
    (case k0_BadPart => kernel_rfl)
    (case k1_BadPart => kernel_rfl)
    (case k2_BadPart => kernel_rfl)
    (case k3_BadPart => kernel_rfl)
    (case k4_BadPart => kernel_rfl)
    (case k5_BadPart => kernel_rfl)
    (case k6_BadPart => kernel_rfl)
    (case kv_BadPart => kernel_rfl)
    (case nf_BadPart => k_is)
    (case xl_BadPart => k_is)
    (case xr_BadPart => decide +kernel)
    (case sa_BadPart => k_is)
    (case a_BadPart___init__ => k_is)
    (case i_BadPart___init__ => k_is)
    (case l_BadPart___init__ => k_is)
    (case c_BadPart___init__ => k_is)
    (case k_BadPart___init__ => k_is)
    (case ex_BadCount => k_is)
    (case ty_BadCount => k_is)
    (case kp_BadCount => k_is)
    (case hg_BadCount => k_is)
    (case hk_BadCount => k_is)
    (case hd_BadCount => k_is)
    (case ha_BadCount => k_is)
    (case hm_BadCount => k_is)
    (case em_BadCount => kernel_rfl)
    (case k0_BadCount => kernel_rfl)
    (case k1_BadCount => kernel_rfl)
    (case k2_BadCount => kernel_rfl)
    (case k3_BadCount => kernel_rfl)
    (case k4_BadCount => kernel_rfl)
    (case k5_BadCount => kernel_rfl)
    (case k6_BadCount => kernel_rfl)
    (case kv_BadCount => kernel_rfl)
    (case xe_BadCount => kernel_rfl)
    (case ex_Lacks => k_is)
    (case ty_Lacks => k_is)
    (case kp_Lacks => k_is)
    (case hg_Lacks => k_is)
    (case hk_Lacks => k_is)
    (case hd_Lacks => k_is)
    (case ha_Lacks => k_is)
    (case hm_Lacks => k_is)
    (case em_Lacks => kernel_rfl)
    (case k0_Lacks => kernel_rfl)
    (case k1_Lacks => kernel_rfl)
    (case k2_Lacks => kernel_rfl)
    (case k3_Lacks => kernel_rfl)
    (case k4_Lacks => kernel_rfl)
    (case k5_Lacks => kernel_rfl)
    (case k6_Lacks => kernel_rfl)
    (case kv_Lacks => kernel_rfl)
    (case nf_Lacks => k_is)
    (case xl_Lacks => k_is)
    (case xr_Lacks => decide +kernel)
    (case sa_Lacks => k_is)
    (case a_Lacks___init__ => k_is)
    (case i_Lacks___init__ => k_is)
    (case l_Lacks___init__ => k_is)
    (case c_Lacks___init__ => k_is)
    (case k_Lacks___init__ => k_is)
    (case ex_BadPiece => k_is)
    (case ty_BadPiece => k_is)
    (case kp_BadPiece => k_is)
    (case hg_BadPiece => k_is)
    (case hk_BadPiece => k_is)
    (case hd_BadPiece => k_is)
    (case ha_BadPiece => k_is)
    (case hm_BadPiece => k_is)
    (case em_BadPiece => kernel_rfl)
    (case k0_BadPiece => kernel_rfl)
    (case k1_BadPiece => kernel_rfl)
    (case k2_BadPiece => kernel_rfl)
    (case k3_BadPiece => kernel_rfl)
    (case k4_BadPiece => kernel_rfl)
    (case k5_BadPiece => kernel_rfl)
    (case k6_BadPiece => kernel_rfl)
    (case kv_BadPiece => kernel_rfl)
    (case nf_BadPiece => k_is)
    (case xl_BadPiece => k_is)
    (case xr_BadPiece => decide +kernel)
    (case sa_BadPiece => k_is)
    (case a_BadPiece___init__ => k_is)
    (case i_BadPiece___init__ => k_is)
    (case l_BadPiece___init__ => k_is)
    (case c_BadPiece___init__ => k_is)
    (case k_BadPiece___init__ => k_is)
    (case z_ValueError => k_is)
    (case z_list => k_is)
    (case z_max => k_is)
    (case z_len => k_is)
    (case z_all => k_is)
    (case z_set => k_is)
    (case z_enumerate => k_is)
    (case z_tuple => k_is)
    (case z_sum => k_is)
    (case z_min => k_is)
    (case z_isinstance => k_is)
    (case z_range => k_is)
    (case z_int => k_is)
    (case z_dict => k_is)
