import PyProof.Rows.All
import Wide.All
import OpenK.AllK
import Wide.FinOn
import HandS.ForMost
import HandS.ForExc
import HandS.DictComp
import HandS.IsInst
import HandS.Walk
import HandS.StrMore
import HandS.SetKeys
import HandS.Zip
import HandS.TryOnly
import HandS.Style
import HandS.Defaults
import HandS.Sort
import HandS.SortRule
import HandS.SortInts
import HandS.DictTup
import KE.GoesEnum
import KE.KDictWalk
import HandS.SetFor
import HandS.Strs
import HandS.SetBool
import HandS.Conv
import HandS.ExcInit
import HandS.ExcIs
import HandS.ExcField
import HandS.MakeKwOnly
import HandS.EndTab
import KE.KExcIs
import KE.DataFind
import PySem.Challenge.RW_partkin_k28_texts_of_no_book
set_option Elab.async false
set_option maxRecDepth 100000
set_option linter.all false
set_option maxHeartbeats 8000000

/-! the layer of weakest readings, and of what a heap is known to hold -/
namespace WK
open PySem PySem.Spec PyProof.Rows L2

/-! ### weakest readings, the same in a def and in a comprehension's block -/
/-- what contexts of one def have alike -/
def Al (P : Program) (w : World) (K : PySem.W.Frag) (X : Cx) : Prop := X.prog = P ∧ X.w = w ∧ X.K = K ∧ X.calm = true ∧ X.A.units + 100 < cLine
theorem al_of {P : Program} {w : World} {K : PySem.W.Frag} {X : Cx} {k : Nat} (hr : Room k X.A) (h1 : X.prog = P := by rfl) (h2 : X.w = w := by rfl) (h3 : X.K = K := by rfl) (h4 : X.calm = true := by rfl) : Al P w K X :=
  ⟨h1, h2, h3, h4, by have := hr.un; omega⟩
section
variable (P : Program) (w : World) (K : PySem.W.Frag)
def OpU (f : Value → Value → Sem Value) : R2 := fun x y H Q => ∀ X pins s σ v u, Al P w K X → Inv X pins σ H s → RelV x v → RelV y u → wpAny (model X.prog X.w) X.A (f v u) (EP X pins σ Q) X.xe s
def IxU : R2 := fun x y H Q => ∀ (value slice : Expr) X pins s σ v u, Al P w K X → Inv X pins σ H s → RelV x v → RelV y u → subscripted slice false v u = operate [v, u] (getItem v u) →
  wpAny (model X.prog X.w) X.A (subscriptTail value slice v u) (EP X pins σ Q) X.xe s
def GetU : V → V → Hp → VK → Prop := fun x y H Q => ∀ X pins s σ v u, Al P w K X → Inv X pins σ H s → RelV x v → RelV y u → wpAny (model X.prog X.w) X.A (getItem v u) (EP X pins σ Q) X.xe s
def SetU : TSet := fun o i v H Q => ∀ X pins s σ ov iv u, Al P w K X → Inv X pins σ H s → RelV o ov → RelV i iv → RelV v u → wpAny (model X.prog X.w) X.A (setItem ov iv u) (fun _ s' => ∃ H', Inv X pins σ H' s' ∧ Q H') X.xe s
def IpU (op : Operator) : TIp := fun x y H Q => ∀ X pins s σ v u, Al P w K X → Inv X pins σ H s → RelV x v → RelV y u → wpAny (model X.prog X.w) X.A (inplaceOp op v u) (EP X pins σ Q) X.xe s
def CallU (f : Value) : List V → Hp → VK → Prop := fun xs H Q => ∀ X pins s σ us, Al P w K X → Inv X pins σ H s → Vals xs us → wpAny (model X.prog X.w) X.A (call f us) (EP X pins σ Q) X.xe s
def MetU (id : String) : V → List V → Hp → VK → Prop := fun x xs H Q => ∀ X pins s σ v us, Al P w K X → Inv X pins σ H s → RelV x v → Vals xs us → wpAny (model X.prog X.w) X.A (call (.builtin id) (v :: us)) (EP X pins σ Q) X.xe s
def TruU : V → Hp → (Bool → Hp → Prop) → Prop := fun x H Q => ∀ X pins s σ v, Al P w K X → Inv X pins σ H s → RelV x v → wpAny (model X.prog X.w) X.A (truthy v) (TP X pins σ Q) X.xe s
def SlU : V → Option Int → Option Int → Hp → VK → Prop := fun x lo hi H Q => ∀ X pins s σ v vl vu sl, Al P w K X → Inv X pins σ H s → RelV x v → s.heap.IsSliceOf sl vl vu .none → IsPart vl lo → IsPart vu hi →
    ∃ T id, typeLookup (.type T) "__getitem__" = pure (some (.builtin id)) ∧ s.TypeIs v T ∧ wpAny (model X.prog X.w) X.A (getItem v (.ref sl)) (EP X pins σ Q) X.xe s
def ItU (tg : Expr) : V → Hp → (It → Hp → Prop) → Prop := fun x H R => ∀ X pins s σ v, Al P w K X → Inv X pins σ H s → RelV x v → wpAny (model X.prog X.w) X.A (pyIter v) (PIE X pins σ tg R) X.xe s
end
section
variable {P : Program} {w : World} {K : PySem.W.Frag} {X : Cx}
theorem opU {f} (al : Al P w K X) : OpR X f (OpU P w K f) := fun pins s σ H x y v u Q I r1 r2 h => h X pins s σ v u al I r1 r2
theorem ixU (al : Al P w K X) : IxR X (IxU P w K) := fun value slice pins s σ H x y v u Q I r1 r2 h hs => h value slice X pins s σ v u al I r1 r2 hs
theorem getU (al : Al P w K X) : PGet X (GetU P w K) := fun pins s σ H o i ov iv Q I r1 r2 h => h X pins s σ ov iv al I r1 r2
theorem setU (al : Al P w K X) : PSet X (SetU P w K) := fun pins s σ H o i v ov iv u Q I r1 r2 r3 h => h X pins s σ ov iv u al I r1 r2 r3
theorem ipU {op} (al : Al P w K X) : PIp X op (IpU P w K op) := fun pins s σ H x y v u Q I r1 r2 h => h X pins s σ v u al I r1 r2
theorem callU {f} (al : Al P w K X) : CallR X f (CallU P w K f) := fun pins s σ H xs us Q I r h => h X pins s σ us al I r
theorem metU {id} (al : Al P w K X) : MtR X id (MetU P w K id) := fun pins s σ H x xs v us Q I r rs h => h X pins s σ v us al I r rs
theorem slU (al : Al P w K X) : SlR X (SlU P w K) := fun pins s σ H x v vl vu lo hi sl Q I r1 h1 h2 h3 h => h X pins s σ v vl vu sl al I r1 h1 h2 h3
/-- what is walked, by its value -/
def iVal (P : Program) (w : World) (K : PySem.W.Frag) (tg : Expr) (te : TE) : TI := fun σ H R => te σ H fun v H1 => ItU P w K tg v H1 R
theorem pi_val {tg e : Expr} {te : TE} (al : Al P w K X) (he : PE X e te) : PI X tg e (iVal P w K tg te) := by
  refine ⟨fun pins s σ H R I h => ?_⟩
  exact thn (he.run pins s σ H _ I h) fun v s1 ⟨x, H1, I1, r1, q1⟩ => q1 X pins s1 σ v al I1 r1
section
variable {x y z : V} {H : Hp} {Q : VK} {xs : List V}
theorem OpU.of {f} {r : R2} (h : ∀ X, Al P w K X → OpR X f r) (k : r x y H Q) : OpU P w K f x y H Q := fun X pins s σ v u al I r1 r2 => h X al pins s σ H x y v u Q I r1 r2 k
theorem IxU.of {r : R2} (h : ∀ X, Al P w K X → IxR X r) (k : r x y H Q) : IxU P w K x y H Q := fun value slice X pins s σ v u al I r1 r2 hs => h X al value slice pins s σ H x y v u Q I r1 r2 k hs
theorem SetU.of {t : TSet} {Q : Hp → Prop} (h : ∀ X, Al P w K X → PSet X t) (k : t x y z H Q) : SetU P w K x y z H Q := fun X pins s σ ov iv u al I r1 r2 r3 => h X al pins s σ H x y z ov iv u Q I r1 r2 r3 k
theorem IpU.of {op} {t : TIp} (h : ∀ X, Al P w K X → PIp X op t) (k : t x y H Q) : IpU P w K op x y H Q := fun X pins s σ v u al I r1 r2 => h X al pins s σ H x y v u Q I r1 r2 k
theorem CallU.of {f} {r : List V → Hp → VK → Prop} (h : ∀ X, Al P w K X → CallR X f r) (k : r xs H Q) : CallU P w K f xs H Q := fun X pins s σ us al I r1 => h X al pins s σ H xs us Q I r1 k
theorem MetU.of {id} {r : V → List V → Hp → VK → Prop} (h : ∀ X, Al P w K X → MtR X id r) (k : r x xs H Q) : MetU P w K id x xs H Q := fun X pins s σ v us al I r1 rs => h X al pins s σ H x xs v us Q I r1 rs k
theorem TruU.of {r : V → Hp → (Bool → Hp → Prop) → Prop} {Q : Bool → Hp → Prop} (h : ∀ X, Al P w K X → TruR X r) (k : r x H Q) : TruU P w K x H Q := fun X pins s σ v al I r1 => h X al pins s σ H x v Q I r1 k
theorem SlU.of {r : V → Option Int → Option Int → Hp → VK → Prop} {lo hi : Option Int} (h : ∀ X, Al P w K X → SlR X r) (k : r x lo hi H Q) : SlU P w K x lo hi H Q :=
  fun X pins s σ v vl vu sl al I r1 h1 h2 h3 => h X al pins s σ H x v vl vu lo hi sl Q I r1 h1 h2 h3 k
theorem OpU.ofK {f} {r : PySem.W.Frag → R2} (h : ∀ X, Al P w K X → OpR X f (r X.K)) (k : r K x y H Q) : OpU P w K f x y H Q := .of (fun X al => by have := h X al; rw [al.2.2.1] at this; exact this) k
theorem IxU.ofK {r : PySem.W.Frag → R2} (h : ∀ X, Al P w K X → IxR X (r X.K)) (k : r K x y H Q) : IxU P w K x y H Q := .of (fun X al => by have := h X al; rw [al.2.2.1] at this; exact this) k
theorem CallU.ofK {f} {r : PySem.W.Frag → List V → Hp → VK → Prop} (h : ∀ X, Al P w K X → CallR X f (r X.K)) (k : r K xs H Q) : CallU P w K f xs H Q := .of (fun X al => by have := h X al; rw [al.2.2.1] at this; exact this) k
theorem MetU.ofK {id} {r : PySem.W.Frag → V → List V → Hp → VK → Prop} (h : ∀ X, Al P w K X → MtR X id (r X.K)) (k : r K x xs H Q) : MetU P w K id x xs H Q := .of (fun X al => by have := h X al; rw [al.2.2.1] at this; exact this) k
theorem SlU.ofK {r : PySem.W.Frag → V → Option Int → Option Int → Hp → VK → Prop} {lo hi : Option Int} (h : ∀ X, Al P w K X → SlR X (r X.K)) (k : r K x lo hi H Q) : SlU P w K x lo hi H Q := .of (fun X al => by have := h X al; rw [al.2.2.1] at this; exact this) k
theorem TruU.ofK {r : PySem.W.Frag → V → Hp → (Bool → Hp → Prop) → Prop} {Q : Bool → Hp → Prop} (h : ∀ X, Al P w K X → TruR X (r X.K)) (k : r K x H Q) : TruU P w K x H Q := .of (fun X al => by have := h X al; rw [al.2.2.1] at this; exact this) k
theorem ItU.list {tg : Expr} {a : Addr} {xs : List V} {R : It → Hp → Prop} (h : SqL K H a xs) (k : R (Itl K a) H) : ItU P w K tg (.ref a) H R := by
  intro X pins s σ v al I r
  obtain ⟨rfl, rfl, rfl, hc, hu⟩ := al
  cases r
  obtain ⟨its, rv, p, hz⟩ := I.list h
  refine wpAny_pyIter_list p.isList ?_
  refine ⟨s.heap.objs.size, [s.heap.objs.size], _, _, H, rfl, I.kept (t' := s.toks) fun b o e => Heap.get?_push_of_some _ e, turn_list a _, ⟨_, Heap.get?_push_size _ rfl, rfl, rfl⟩, fun b hb => ?_, k⟩
  have e : b = s.heap.objs.size := by simpa using hb
  subst e
  exact I.fpOk (Nat.le_refl _) (I.hok.fresh (Nat.le_refl _))
theorem ItU.tup {tg : Expr} {a : Addr} {xs : List V} {R : It → Hp → Prop} (h : SqT K H a xs) (k : R (Itt K a) H) : ItU P w K tg (.ref a) H R := by
  intro X pins s σ v al I r
  obtain ⟨rfl, rfl, rfl, hc, hu⟩ := al
  cases r
  obtain ⟨its, rv, p, hz⟩ := I.tuple h
  refine wpAny_pyIter_tuple (show s.heap.IsTuple a its.toArray from p) ?_
  refine ⟨s.heap.objs.size, [s.heap.objs.size], _, _, H, rfl, I.kept (t' := s.toks) fun b o e => Heap.get?_push_of_some _ e, turn_tuple a _, ⟨_, Heap.get?_push_size _ rfl, rfl, rfl⟩, fun b hb => ?_, k⟩
  have e : b = s.heap.objs.size := by simpa using hb
  subst e
  exact I.fpOk (Nat.le_refl _) (I.hok.fresh (Nat.le_refl _))
end
end
end WK
namespace WK
open PySem PySem.Spec PyProof.Rows L2
theorem pg_tupU (K : PySem.W.Frag) {X : Cx} {es : List Expr} {k : Nat} {t : TGs} {n : Nat} {pos : Pos} (h : PGs X es t) (hK : X.K = K := by rfl) (hc : X.calm = true := by rfl) (hn : (assignEach es X.env).length = n := by rfl) (hst : (assignEach es X.env).findIdx? (·.1) = none := by rfl) :
    PG X (.Tuple es k pos) (gTup K n t) := by
  subst hK
  exact pg_tup hc h hn hst
theorem pe_fldU (K : PySem.W.Frag) {X : Cx} {e : Expr} {f : Str} {ta : TE} {pos : Pos} (he : PE X e ta) (hb : attributeBase e f X.env (eval e X.env) = eval e X.env) (hK : X.K = K := by rfl) : PE X (.Attribute e f pos) (tFld K ta f) := by
  subst hK
  exact pe_fld he hb
end WK

namespace WK
open PySem PySem.Spec PyProof.Rows L2

/-! ### what a heap is known to hold: B what stays, L what is one's own -/
abbrev Ex (H H' : Hp) : Prop := ∀ a o, H a = some o → H' a = some o
theorem Ex.refl (H : Hp) : Ex H H := fun _ _ h => h
theorem Ex.trans {H H1 H2 : Hp} (a : Ex H H1) (b : Ex H1 H2) : Ex H H2 := fun x o h => b x o (a x o h)
theorem Ex.new {H : Hp} {p : Addr} {o : HO} (h : H p = none) : Ex H (upd H p o) := fun a u e => by
  rw [upd_ne (ne_of_none e h)]
  exact e
theorem Ex.rd {H H' : Hp} {a : Addr} {u : HO} (e : Ex H H') (h : Rd H a u) : Rd H' a u := by
  rcases h with h | ⟨o, h⟩
  · exact Or.inl (e a _ h)
  · exact Or.inr ⟨o, e a _ h⟩
theorem Ex.sqL {K : PySem.W.Frag} {H H' : Hp} {a : Addr} {xs : List V} (e : Ex H H') (h : SqL K H a xs) : SqL K H' a xs := by
  rcases h with h | h
  · exact Or.inl (e.rd h)
  · exact Or.inr h
theorem Ex.sqT {K : PySem.W.Frag} {H H' : Hp} {a : Addr} {xs : List V} (e : Ex H H') (h : SqT K H a xs) : SqT K H' a xs := by
  rcases h with h | h
  · exact Or.inl (e.rd h)
  · exact Or.inr h
theorem Ex.ap {H H' : Hp} {a : Addr} {o : HO} (e : Ex H H') (h : H a = some o) : H' a = some o := e a o h

abbrev Led := List (Addr × HO)
structure Ent where
  B : Hp
  H : Hp
  A : List Addr
/-- F: how it was at an entry, and which addresses of it may change -/
structure Ok (F : Ent) (B : Hp) (L : Led) (H : Hp) : Prop where
  ex : Ex B H
  nd : (L.map (·.1)).Nodup
  own : ∀ p ∈ L, H p.1 = some p.2 ∧ B p.1 = none
  ex0 : Ex F.B B
  keep : ∀ a o, F.H a = some o → a ∉ F.A → H a = some o
  kA : ∀ a ∈ F.A, ∃ o, H a = some o
  fB : ∀ a o, B a = some o → (∃ u, F.B a = some u) ∨ F.H a = none ∨ a ∈ F.A
  fL : ∀ p ∈ L, p.1 ∈ F.A ∨ F.H p.1 = none
section
variable {F : Ent} {B H : Hp} {L L1 L2 : Led} {p : Addr} {o o' : HO}
theorem Ok.start (h : Ex B H) (nd : (L.map (·.1)).Nodup) (own : ∀ p ∈ L, H p.1 = some p.2 ∧ B p.1 = none) : Ok ⟨B, H, L.map (·.1)⟩ B L H where
  ex := h
  nd := nd
  own := own
  ex0 := Ex.refl _
  keep := fun _ _ e _ => e
  kA := fun a ha => by
    obtain ⟨q, hq, rfl⟩ := List.mem_map.mp ha
    exact ⟨_, (own q hq).1⟩
  fB := fun _ _ e => .inl ⟨_, e⟩
  fL := fun q hq => .inl (List.mem_map.mpr ⟨q, hq, rfl⟩)
theorem Ok.start0 (h : Ex B H) : Ok ⟨B, H, []⟩ B [] H := Ok.start (L := []) h List.nodup_nil (fun _ z => nomatch z)
theorem Ok.again (S : Ok F B L H) : Ok ⟨B, H, L.map (·.1)⟩ B L H := Ok.start S.ex S.nd S.own
theorem Ok.fresh (S : Ok F B L H) (hp : H p = none) : F.H p = none ∧ B p = none ∧ p ∉ L.map (·.1) := by
  refine ⟨?_, ?_, fun z => ?_⟩
  · cases e : F.H p with
    | none => rfl
    | some u =>
      by_cases ha : p ∈ F.A
      · obtain ⟨w, hw⟩ := S.kA p ha
        rw [hp] at hw
        cases hw
      · have := S.keep p u e ha
        rw [hp] at this
        cases this
  · cases e : B p with
    | none => rfl
    | some u =>
      have := S.ex p u e
      rw [hp] at this
      cases this
  · obtain ⟨q, hq, rfl⟩ := List.mem_map.mp z
    have := (S.own q hq).1
    rw [hp] at this
    cases this
theorem Ok.newL (S : Ok F B L H) (hp : H p = none) : Ok F B ((p, o) :: L) (upd H p o) := by
  obtain ⟨f0, f1, f2⟩ := S.fresh hp
  have ne : ∀ {a u}, H a = some u → a ≠ p := fun e => ne_of_none e hp
  refine ⟨fun a u e => ?_, List.nodup_cons.mpr ⟨f2, S.nd⟩, fun q hq => ?_, S.ex0, fun a u e h => ?_, fun a h => ?_, S.fB, fun q hq => ?_⟩
  · rw [upd_ne (ne (S.ex a u e))]; exact S.ex a u e
  · rcases List.mem_cons.mp hq with rfl | hq
    · exact ⟨upd_same, f1⟩
    · obtain ⟨e1, e2⟩ := S.own q hq
      exact ⟨by rw [upd_ne (ne e1)]; exact e1, e2⟩
  · have := S.keep a u e h
    rw [upd_ne (ne this)]; exact this
  · obtain ⟨u, e⟩ := S.kA a h
    exact ⟨u, by rw [upd_ne (ne e)]; exact e⟩
  · rcases List.mem_cons.mp hq with rfl | hq
    · exact .inr f0
    · exact S.fL q hq
/-- a thing that nobody tells of -/
theorem Ok.junk (S : Ok F B L H) (hp : H p = none) : Ok F B L (upd H p o) := by
  have S1 : Ok F B ((p, o) :: L) (upd H p o) := S.newL hp
  exact ⟨S1.ex, (List.nodup_cons.mp S1.nd).2, fun q hq => S1.own q (List.mem_cons_of_mem _ hq), S1.ex0, S1.keep, S1.kA, S1.fB, fun q hq => S1.fL q (List.mem_cons_of_mem _ hq)⟩
theorem Ok.perm (S : Ok F B L H) (h : L.Perm L1) : Ok F B L1 H :=
  ⟨S.ex, (h.map _).nodup_iff.mp S.nd, fun q hq => S.own q (h.mem_iff.mpr hq), S.ex0, S.keep, S.kA, S.fB, fun q hq => S.fL q (h.mem_iff.mpr hq)⟩
/-- the first of one's own is let go: it stays as it is from now on -/
theorem Ok.freeze (S : Ok F B ((p, o) :: L) H) : Ok F (upd B p o) L H := by
  obtain ⟨e1, e2⟩ := S.own _ (List.mem_cons_self ..)
  have nd := List.nodup_cons.mp S.nd
  have np : ∀ q ∈ L, q.1 ≠ p := fun q hq z => nd.1 (List.mem_map.mpr ⟨q, hq, z⟩)
  refine ⟨fun a u e => ?_, nd.2, fun q hq => ?_, fun a u e => ?_, S.keep, S.kA, fun a u e => ?_, fun q hq => S.fL q (List.mem_cons_of_mem _ hq)⟩
  · by_cases h : a = p
    · subst h
      rw [upd_same] at e
      cases e
      exact e1
    · rw [upd_ne h] at e
      exact S.ex a u e
  · obtain ⟨g1, g2⟩ := S.own q (List.mem_cons_of_mem _ hq)
    exact ⟨g1, by rw [upd_ne (np q hq)]; exact g2⟩
  · have := S.ex0 a u e
    rw [upd_ne (ne_of_none this e2)]; exact this
  · by_cases h : a = p
    · subst h
      rcases S.fL _ (List.mem_cons_self ..) with z | z
      · exact .inr (.inr z)
      · exact .inr (.inl z)
    · rw [upd_ne h] at e
      exact S.fB a u e
theorem Ok.exF (S : Ok F B ((p, o) :: L) H) : Ex B (upd B p o) := Ex.new (S.own _ (List.mem_cons_self ..)).2
theorem Ok.mut (S : Ok F B ((p, o) :: L) H) : Ok F B ((p, o') :: L) (upd H p o') := by
  obtain ⟨e1, e2⟩ := S.own _ (List.mem_cons_self ..)
  have nd := List.nodup_cons.mp S.nd
  have np : ∀ q ∈ L, q.1 ≠ p := fun q hq z => nd.1 (List.mem_map.mpr ⟨q, hq, z⟩)
  refine ⟨fun a u e => ?_, List.nodup_cons.mpr nd, fun q hq => ?_, S.ex0, fun a u e h => ?_, fun a h => ?_, S.fB, fun q hq => ?_⟩
  · rw [upd_ne (ne_of_none e e2)]; exact S.ex a u e
  · rcases List.mem_cons.mp hq with rfl | hq
    · exact ⟨upd_same, e2⟩
    · obtain ⟨g1, g2⟩ := S.own q (List.mem_cons_of_mem _ hq)
      exact ⟨by rw [upd_ne (np q hq)]; exact g1, g2⟩
  · rcases S.fL _ (List.mem_cons_self ..) with z | z
    · rw [upd_ne (fun y => h (by rw [y]; exact z))]; exact S.keep a u e h
    · rw [upd_ne (fun y => by rw [y] at e; rw [z] at e; cases e)]; exact S.keep a u e h
  · by_cases y : a = p
    · exact ⟨o', by rw [y]; exact upd_same⟩
    · rw [upd_ne y]; exact S.kA a h
  · rcases List.mem_cons.mp hq with rfl | hq
    · exact S.fL (p, o) (List.mem_cons_self ..)
    · exact S.fL q (List.mem_cons_of_mem _ hq)
/-- at any place of the ledger -/
theorem Ok.mutAt (S : Ok F B (L1 ++ (p, o) :: L2) H) : Ok F B (L1 ++ (p, o') :: L2) (upd H p o') :=
  ((S.perm List.perm_middle).mut (o' := o')).perm List.perm_middle.symm
theorem Ok.newB (S : Ok F B L H) (hp : H p = none) : Ok F (upd B p o) L (upd H p o) := (S.newL hp).freeze
theorem Ok.exB (S : Ok F B L H) (hp : H p = none) : Ex B (upd B p o) := Ex.new (S.fresh hp).2.1
/-- a call that may change L1 alone -/
theorem Ok.call {B' H' : Hp} {L1' : Led} (S : Ok F B (L1 ++ L2) H) (T : Ok ⟨B, H, L1.map (·.1)⟩ B' L1' H') : Ok F B' (L1' ++ L2) H' := by
  have nd := S.nd
  rw [List.map_append, List.nodup_append] at nd
  have na : ∀ q ∈ L2, q.1 ∉ L1.map (·.1) := fun q hq z => nd.2.2 _ z _ (List.mem_map.mpr ⟨q, hq, rfl⟩) rfl
  have k2 : ∀ q ∈ L2, H' q.1 = some q.2 ∧ B' q.1 = none := fun q hq => by
    obtain ⟨e1, e2⟩ := S.own q (List.mem_append_right _ hq)
    refine ⟨T.keep _ _ e1 (na q hq), ?_⟩
    cases e : B' q.1 with
    | none => rfl
    | some u =>
      rcases T.fB _ _ e with ⟨w, z⟩ | z | z
      · rw [show B q.1 = some w from z] at e2
        cases e2
      · rw [show H q.1 = none from z] at e1
        cases e1
      · exact absurd z (na q hq)
  have key : ∀ a, a ∈ L1.map (·.1) → a ∈ F.A ∨ F.H a = none := fun a ha => by
    obtain ⟨q, hq, rfl⟩ := List.mem_map.mp ha
    exact S.fL q (List.mem_append_left _ hq)
  refine ⟨T.ex, ?_, fun q hq => ?_, S.ex0.trans T.ex0, fun a u e h => ?_, fun a h => ?_, fun a u e => ?_, fun q hq => ?_⟩
  · rw [List.map_append, List.nodup_append]
    refine ⟨T.nd, nd.2.1, fun a ha b hb z => ?_⟩
    subst z
    obtain ⟨q, hq, rfl⟩ := List.mem_map.mp hb
    obtain ⟨q', hq', e'⟩ := List.mem_map.mp ha
    rcases T.fL q' hq' with y | y
    · exact na q hq (by rw [← e']; exact y)
    · have := (S.own q (List.mem_append_right _ hq)).1
      have y' : H q'.1 = none := y
      have e'' : q'.1 = q.1 := e'
      rw [e'', this] at y'
      cases y'
  · rcases List.mem_append.mp hq with hq | hq
    · exact T.own q hq
    · exact k2 q hq
  · refine T.keep a u (S.keep a u e h) fun z => ?_
    rcases key a z with y | y
    · exact h y
    · rw [y] at e
      cases e
  · obtain ⟨u, e⟩ := S.kA a h
    by_cases z : a ∈ L1.map (·.1)
    · exact T.kA a z
    · exact ⟨u, T.keep a u e z⟩
  · rcases T.fB a u e with ⟨w, z⟩ | z | z
    · exact S.fB a w z
    · refine .inr (.inl ?_)
      cases e' : F.H a with
      | none => rfl
      | some w =>
        by_cases y : a ∈ F.A
        · obtain ⟨v, hv⟩ := S.kA a y
          rw [show H a = none from z] at hv
          cases hv
        · have := S.keep a w e' y
          rw [show H a = none from z] at this
          cases this
    · rcases key a z with y | y
      · exact .inr (.inr y)
      · exact .inr (.inl y)
  · rcases List.mem_append.mp hq with hq | hq
    · rcases T.fL q hq with z | z
      · exact key _ z
      · refine .inr ?_
        cases e' : F.H q.1 with
        | none => rfl
        | some w =>
          by_cases y : q.1 ∈ F.A
          · obtain ⟨v, hv⟩ := S.kA _ y
            rw [show H q.1 = none from z] at hv
            cases hv
          · have := S.keep _ w e' y
            rw [show H q.1 = none from z] at this
            cases this
    · exact S.fL q (List.mem_append_right _ hq)
theorem Ok.callP {B' H' : Hp} (S : Ok F B L H) (T : Ok ⟨B, H, []⟩ B' [] H') : Ok F B' L H' := S.call (L1 := []) (L1' := []) T
/-- a call that hands out one's own things besides -/
theorem Ok.callN {B' H' : Hp} {L' : Led} (S : Ok F B L H) (T : Ok ⟨B, H, []⟩ B' L' H') : Ok F B' (L' ++ L) H' := S.call (L1 := []) (L1' := L') T
theorem Ok.at (S : Ok F B L H) {q : Addr × HO} (h : q ∈ L) : H q.1 = some q.2 := (S.own q h).1
theorem Ok.sqB {K : PySem.W.Frag} {a : Addr} {xs : List V} (S : Ok F B L H) (h : SqL K B a xs) : SqL K H a xs := S.ex.sqL h
theorem Ok.tqB {K : PySem.W.Frag} {a : Addr} {xs : List V} (S : Ok F B L H) (h : SqT K B a xs) : SqT K H a xs := S.ex.sqT h
/-- the ledger less what is no longer looked at -/
theorem Ok.drop (S : Ok F B ((p, o) :: L) H) : Ok F B L H :=
  ⟨S.ex, (List.nodup_cons.mp S.nd).2, fun q hq => S.own q (List.mem_cons_of_mem _ hq), S.ex0, S.keep, S.kA, S.fB, fun q hq => S.fL q (List.mem_cons_of_mem _ hq)⟩
end

end WK
namespace L2
open PySem PySem.Spec PyProof.Rows WK
/-! ### data -/
section
variable {K : PySem.W.Frag} {B B' : Hp}
mutual
theorem Dp.up (e : Ex B B') : ∀ {v : V} {d : PyData}, Dp K B v d → Dp K B' v d
  | _, _, .non => .non
  | _, _, .bl b => .bl b
  | _, _, .int i => .int i
  | _, _, .str x => .str x
  | _, _, .lst h a => .lst (e.sqL h) (DpAll.up e a)
  | _, _, .tup h a => .tup (e.sqT h) (DpAll.up e a)
theorem DpAll.up (e : Ex B B') : ∀ {vs : List V} {ds : List PyData}, DpAll K B vs ds → DpAll K B' vs ds
  | _, _, .nil => .nil
  | _, _, .cons h t => .cons (Dp.up e h) (DpAll.up e t)
end
theorem Dp.int_inv {v : V} {i : Int} (h : Dp K B v (.int i)) : v = .int i := by cases h; rfl
theorem Dp.str_inv {v : V} {x : Str} (h : Dp K B v (.str x)) : v = .str x := by cases h; rfl
theorem Dp.bl_inv {v : V} {x : Bool} (h : Dp K B v (.bool x)) : v = .bl x := by cases h; rfl
theorem Dp.tup_inv {v : V} {ds : List PyData} (h : Dp K B v (.tuple ds)) : ∃ a xs, v = .ref a ∧ SqT K B a xs ∧ DpAll K B xs ds := by
  cases h with
  | tup h a => exact ⟨_, _, rfl, h, a⟩
theorem Dp.lst_inv {v : V} {ds : List PyData} (h : Dp K B v (.list ds)) : ∃ a xs, v = .ref a ∧ SqL K B a xs ∧ DpAll K B xs ds := by
  cases h with
  | lst h a => exact ⟨_, _, rfl, h, a⟩
theorem DpAll.nil_inv {vs : List V} (h : DpAll K B vs []) : vs = [] := by cases h; rfl
theorem DpAll.cons_inv {vs : List V} {d : PyData} {ds : List PyData} (h : DpAll K B vs (d :: ds)) : ∃ v r, vs = v :: r ∧ Dp K B v d ∧ DpAll K B r ds := by
  cases h with
  | cons h t => exact ⟨_, _, rfl, h, t⟩
theorem DpAll.length : ∀ {vs : List V} {ds : List PyData}, DpAll K B vs ds → vs.length = ds.length
  | _, _, .nil => rfl
  | _, _, .cons _ t => congrArg (· + 1) (DpAll.length t)
theorem DpAll.get : ∀ {vs : List V} {ds : List PyData}, DpAll K B vs ds → ∀ {i : Nat} {v : V}, vs[i]? = some v → ∃ d, ds[i]? = some d ∧ Dp K B v d
  | _, _, .nil, i, v, h => by simp at h
  | _, _, .cons h t, 0, v, e => by simp at e; subst e; exact ⟨_, rfl, h⟩
  | _, _, .cons h t, i + 1, v, e => by simpa using DpAll.get t (i := i) (by simpa using e)
theorem DpAll.get' : ∀ {vs : List V} {ds : List PyData}, DpAll K B vs ds → ∀ {i : Nat} {d : PyData}, ds[i]? = some d → ∃ v, vs[i]? = some v ∧ Dp K B v d
  | _, _, .nil, i, v, h => by simp at h
  | _, _, .cons h t, 0, v, e => by simp at e; subst e; exact ⟨_, rfl, h⟩
  | _, _, .cons h t, i + 1, v, e => by simpa using DpAll.get' t (i := i) (by simpa using e)
theorem DpAll.append : ∀ {vs ws : List V} {ds es : List PyData}, DpAll K B vs ds → DpAll K B ws es → DpAll K B (vs ++ ws) (ds ++ es)
  | _, _, _, _, .nil, s => s
  | _, _, _, _, .cons h t, s => .cons h (DpAll.append t s)
theorem DpAll.snoc {vs : List V} {v : V} {ds : List PyData} {d : PyData} (h : DpAll K B vs ds) (g : Dp K B v d) : DpAll K B (vs ++ [v]) (ds ++ [d]) := h.append (.cons g .nil)
theorem DpAll.ints : ∀ {vs : List V} {ns : List Int}, DpAll K B vs (ns.map PyData.int) → vs = ns.map V.int
  | _, [], .nil => rfl
  | _, n :: ns, .cons h t => by rw [Dp.int_inv h, DpAll.ints t]; rfl
theorem DpAll.strs : ∀ {vs : List V} {ns : List Str}, DpAll K B vs (ns.map PyData.str) → vs = ns.map V.str
  | _, [], .nil => rfl
  | _, n :: ns, .cons h t => by rw [Dp.str_inv h, DpAll.strs t]; rfl
theorem dpStrs : ∀ (ns : List Str), DpAll K B (ns.map V.str) (ns.map PyData.str)
  | [] => .nil
  | n :: ns => .cons (.str n) (dpStrs ns)
theorem DpAll.bools : ∀ {vs : List V} {ns : List Bool}, DpAll K B vs (ns.map PyData.bool) → vs = ns.map V.bl
  | _, [], .nil => rfl
  | _, n :: ns, .cons h t => by rw [Dp.bl_inv h, DpAll.bools t]; rfl
end
end L2

namespace WK
open PySem PySem.Spec PyProof.Rows L2

/-! ### reading by reading: what to show next -/
def BlQ (Q : Bool → Hp → Prop) (x : V) (H : Hp) : Prop := ∃ b, x = .bl b ∧ Q b H
def InQ (Q : Int → Hp → Prop) (x : V) (H : Hp) : Prop := ∃ i, x = .int i ∧ Q i H
def PrQ (Q : V → V → Hp → Prop) (vs : List V) (H : Hp) : Prop := ∃ v w, vs = [v, w] ∧ Q v w H
section
variable {X : Cx} {K : PySem.W.Frag} {σ : L2.St} {H : Hp} {Q : VK} {ta tb te tc : TE} {t u : TT}
theorem r_var {i : Nat} {v : V} (h : σ[i]? = some (some v)) (k : Q v H) : tVar i σ H Q := ⟨v, h, k⟩
theorem r_c {v : V} (k : Q v H) : tC v σ H Q := k
theorem r_op {r : R2} (k : ta σ H fun x H1 => tb σ H1 fun y H2 => r x y H2 Q) : tOp r ta tb σ H Q := k
theorem r_un {r : V → Hp → VK → Prop} (k : ta σ H fun x H1 => r x H1 Q) : tUn r ta σ H Q := k
theorem r_test {Q : Bool → Hp → Prop} (k : te σ H (BlQ Q)) : tTest te σ H Q := k
theorem r_B {Q : Bool → Hp → Prop} (k : te σ H (BlQ Q)) : tB te σ H Q := k
theorem r_bl {Q : Bool → Hp → Prop} {b : Bool} (k : Q b H) : BlQ Q (.bl b) H := ⟨b, rfl, k⟩
theorem r_and {Q : Bool → Hp → Prop} (k : t σ H fun c H1 => if c = true then u σ H1 Q else Q false H1) : tAnd t u σ H Q := k
theorem r_or {Q : Bool → Hp → Prop} (k : t σ H fun c H1 => if c = true then Q true H1 else u σ H1 Q) : tOr t u σ H Q := k
theorem r_not {Q : Bool → Hp → Prop} (k : t σ H fun c H1 => Q (!c) H1) : tNot t σ H Q := k
theorem r_andV (k : ta σ H (BlQ fun c H1 => if c = true then tb σ H1 Q else Q (.bl false) H1)) : tAndV ta tb σ H Q := k
theorem r_orV (k : ta σ H (BlQ fun c H1 => if c = true then Q (.bl true) H1 else tb σ H1 Q)) : tOrV ta tb σ H Q := k
theorem r_notV (k : ta σ H (BlQ fun c H1 => Q (.bl (!c)) H1)) : tNotV ta σ H Q := k
theorem r_if (k : t σ H fun c H1 => if c = true then ta σ H1 Q else tb σ H1 Q) : tIf t ta tb σ H Q := k
theorem r_nil {Q : List V → Hp → Prop} (k : Q [] H) : tNil σ H Q := k
theorem r_cons {tr : TA} {Q : List V → Hp → Prop} (k : te σ H fun x H1 => tr σ H1 fun xs H2 => Q (x :: xs) H2) : tCons te tr σ H Q := k
theorem r_cb {r : List V → Hp → VK → Prop} {ts : TA} (k : ts σ H fun vs H1 => r vs H1 Q) : tCB r ts σ H Q := k
theorem r_nopart {Q : Option Int → Hp → Prop} (k : Q none H) : tNoPart σ H Q := k
theorem r_part {Q : Option Int → Hp → Prop} (k : te σ H (InQ fun i H1 => Q (some i) H1)) : tPart te σ H Q := k
theorem r_in {Q : Int → Hp → Prop} {i : Int} (k : Q i H) : InQ Q (.int i) H := ⟨i, rfl, k⟩
theorem r_sl {r : V → Option Int → Option Int → Hp → VK → Prop} {tl th : TO} (k : te σ H fun x H1 => tl σ H1 fun l H2 => th σ H2 fun u H3 => r x l u H3 Q) : tSl r te tl th σ H Q := k
theorem r_chain {r r' : R2} (k : ta σ H fun x H1 => tb σ H1 fun y H2 => r x y H2 (BlQ fun k H3 => if k = true then tc σ H3 fun w H4 => r' y w H4 Q else Q (.bl false) H3)) : tChain r r' ta tb tc σ H Q := k
/-! statements -/
variable {D : Ends} {ts us : TS}
theorem r_seq (k : ts { D with nx := us D } σ H) : tSeq ts us D σ H := k
theorem r_next (k : D.nx σ H) : tNext D σ H := k
theorem r_asg {g : TG} (k : te σ H fun x H1 => g x σ H1 D.nx) : tAsg te g D σ H := k
theorem r_drop (k : te σ H fun _ H1 => D.nx σ H1) : tDrop te D σ H := k
theorem r_ret (k : te σ H D.rt) : tRet te D σ H := k
theorem r_retN (k : D.rt .non H) : tRetN D σ H := k
theorem r_ifS (k : t σ H fun b H1 => if b = true then ts D σ H1 else us D σ H1) : tIfS t ts us D σ H := k
theorem r_gsub {to ti : TE} {tse : TSet} {v : V} {Q : L2.St → Hp → Prop} (k : to σ H fun o H1 => ti σ H1 fun i H2 => tse o i v H2 fun H3 => Q σ H3) : gSub to ti tse v σ H Q := k
theorem r_gtup {n : Nat} {gs : TGs} {a : Addr} {xs : List V} {Q : L2.St → Hp → Prop} (h : SqT K H a xs) (hn : xs.length = n) (k : gs xs σ H Q) : gTup K n gs (.ref a) σ H Q := ⟨a, xs, rfl, h, hn, k⟩
theorem r_gnil {Q : L2.St → Hp → Prop} (k : Q σ H) : gNil [] σ H Q := ⟨rfl, k⟩
theorem r_gcons {g : TG} {gs : TGs} {v : V} {vs : List V} {Q : L2.St → Hp → Prop} (k : g v σ H fun σ' H' => gs vs σ' H' Q) : gCons g gs (v :: vs) σ H Q := ⟨v, vs, rfl, k⟩
theorem r_par {i j : Nat} {tas : TA} (k : tas σ H (PrQ fun v w H1 => D.nx ((σ.set i (some v)).set j (some w)) H1)) : tPar i j tas D σ H := k
theorem r_par2 {Q : V → V → Hp → Prop} {v w : V} (k : Q v w H) : PrQ Q [v, w] H := ⟨v, w, rfl, k⟩
theorem r_aug {i : Nat} {ti : TIp} {v : V} (h : σ[i]? = some (some v)) (k : te σ H fun y H1 => ti v y H1 fun z H2 => D.nx (σ.set i (some z)) H2) : tAug i te ti D σ H := ⟨v, h, k⟩
theorem r_augS {to ti : TE} {tget : V → V → Hp → VK → Prop} {tip : TIp} {tset : TSet}
    (k : to σ H fun o H1 => ti σ H1 fun i H2 => tget o i H2 fun x H3 => te σ H3 fun y H4 => tip x y H4 fun z H5 => tset o i z H5 fun H6 => D.nx σ H6) : tAugS to ti te tget tip tset D σ H := k
end
/-! branches -/
theorem ifd {c : Prop} {inst : Decidable c} {A B : Prop} (h1 : c → A) (h2 : ¬ c → B) : if decide c = true then A else B := by
  by_cases h : c
  · rw [if_pos (decide_eq_true h)]; exact h1 h
  · rw [if_neg (by rw [decide_eq_false h]; exact Bool.false_ne_true)]; exact h2 h
theorem ifT {b : Bool} {A B : Prop} (h : b = true) (k : A) : if b = true then A else B := by rw [if_pos h]; exact k
theorem ifF {b : Bool} {A B : Prop} (h : b = false) (k : B) : if b = true then A else B := by rw [if_neg (by rw [h]; exact Bool.false_ne_true)]; exact k
theorem ifdT {c : Prop} {inst : Decidable c} {A B : Prop} (h : c) (k : A) : if decide c = true then A else B := ifT (decide_eq_true h) k
theorem ifdF {c : Prop} {inst : Decidable c} {A B : Prop} (h : ¬ c) (k : B) : if decide c = true then A else B := ifF (decide_eq_false h) k
theorem Al.hu {P w K X} (al : Al P w K X) : X.A.units + 1 < cLine := by have := al.2.2.2.2; omega
theorem Al.hu64 {P w K X} (al : Al P w K X) : X.A.units + 64 < cLine := by have := al.2.2.2.2; omega
theorem Al.calm {P w K X} (al : Al P w K X) : X.calm = true := al.2.2.2.1
/-! ### by values -/
section
variable {P : Program} {w : World} {K : PySem.W.Frag} {H B : Hp} {Q : VK} {F : Ent} {L L1 L2 : Led}
theorem v_add {i j : Int} (k : Q (.int (i + j)) H) : OpU P w K (binaryOp .Add) (.int i) (.int j) H Q := .of (fun _ al => op_add) ⟨i, j, rfl, rfl, k⟩
theorem v_sub {i j : Int} (k : Q (.int (i - j)) H) : OpU P w K (binaryOp .Sub) (.int i) (.int j) H Q := .of (fun _ al => op_sub) ⟨i, j, rfl, rfl, k⟩
theorem v_mul {i j : Int} (h : CMul i j) (k : Q (.int (i * j)) H) : OpU P w K (binaryOp .Mult) (.int i) (.int j) H Q := .of (fun _ al => op_mul) ⟨i, j, rfl, rfl, h, k⟩
theorem v_mod {i j : Int} (h : 0 < j) (k : Q (.int (i % j)) H) : OpU P w K (binaryOp .Mod) (.int i) (.int j) H Q := .of (fun _ al => op_mod) ⟨i, j, rfl, rfl, h, k⟩
theorem v_fdiv {i j : Int} (h : CDiv i j) (k : Q (.int (i / j)) H) : OpU P w K (binaryOp .FloorDiv) (.int i) (.int j) H Q := .of (fun _ al => op_fdiv) ⟨i, j, rfl, rfl, h, k⟩
theorem v_pow {i j : Int} (h : CPow i j) (k : Q (.int (i ^ j.toNat)) H) : OpU P w K (binaryOp .Pow) (.int i) (.int j) H Q := .of (fun _ al => op_pow) ⟨i, j, rfl, rfl, h, k⟩
theorem v_addS {i j : Str} (h : i.length + j.length ≤ sizeLine) (k : Q (.str (i ++ j)) H) : OpU P w K (binaryOp .Add) (.str i) (.str j) H Q := .of (fun _ al => op_add_str) ⟨i, j, rfl, rfl, h, k⟩
theorem v_lt {i j : Int} (k : Q (.bl (decide (i < j))) H) : OpU P w K (compareOp .Lt) (.int i) (.int j) H Q := .of (fun _ al => op_lt) ⟨i, j, rfl, rfl, k⟩
theorem v_le {i j : Int} (k : Q (.bl (decide (i ≤ j))) H) : OpU P w K (compareOp .LtE) (.int i) (.int j) H Q := .of (fun _ al => op_le) ⟨i, j, rfl, rfl, k⟩
theorem v_gt {i j : Int} (k : Q (.bl (decide (j < i))) H) : OpU P w K (compareOp .Gt) (.int i) (.int j) H Q := .of (fun _ al => op_gt) ⟨i, j, rfl, rfl, k⟩
theorem v_ge {i j : Int} (k : Q (.bl (decide (j ≤ i))) H) : OpU P w K (compareOp .GtE) (.int i) (.int j) H Q := .of (fun _ al => op_ge) ⟨i, j, rfl, rfl, k⟩
theorem dec_i {i j : Int} : decide (V.int i = V.int j) = decide (i = j) := by
  by_cases h : i = j
  · subst h; simp
  · rw [decide_eq_false h]; exact decide_eq_false fun z => h (by injection z)
theorem dec_s {i j : Str} : decide (V.str i = V.str j) = decide (i = j) := by
  by_cases h : i = j
  · subst h; simp
  · rw [decide_eq_false h]; exact decide_eq_false fun z => h (by injection z)
theorem v_eqI {i j : Int} (k : Q (.bl (decide (i = j))) H) : OpU P w K (compareOp .Eq) (.int i) (.int j) H Q := .of (fun _ al => op_eq) ⟨rfl, by rw [dec_i]; exact k⟩
theorem v_eqS {i j : Str} (k : Q (.bl (decide (i = j))) H) : OpU P w K (compareOp .Eq) (.str i) (.str j) H Q := .of (fun _ al => op_eq) ⟨rfl, by rw [dec_s]; exact k⟩
theorem v_neI {i j : Int} (k : Q (.bl (!decide (i = j))) H) : OpU P w K (compareOp .NotEq) (.int i) (.int j) H Q := .of (fun _ al => op_ne) ⟨rfl, by rw [dec_i]; exact k⟩
theorem v_neS {i j : Str} (k : Q (.bl (!decide (i = j))) H) : OpU P w K (compareOp .NotEq) (.str i) (.str j) H Q := .of (fun _ al => op_ne) ⟨rfl, by rw [dec_s]; exact k⟩
theorem v_inSign {c : Nat} {z : Str} (k : Q (.bl (decide (c ∈ z.cps.toList))) H) : OpU P w K (compareOp .In) (.str ⟨#[c]⟩) (.str z) H Q := .of (fun _ al => op_in_sign) ⟨c, z, rfl, rfl, k⟩
end
section
variable {X : Cx} {P : Program} {w : World} {K : PySem.W.Frag} {H B : Hp} {Q : VK}
theorem op_dIn (hu : X.A.units + 1 < cLine) : OpR X (compareOp .In) (fun x y H Q => ∃ a o, y = .ref a ∧ DGet H a x o ∧ Q (.bl o.isSome) H) := by
  intro pins s σ H x y v u Q I rx ry h
  obtain ⟨a, o, rfl, g, q⟩ := h
  obtain rfl : u = Value.ref a := ry
  exact d_in hu I g rx fun s' I' => ⟨.bl o.isSome, H, I', rfl, q⟩
theorem op_dNotIn (hu : X.A.units + 1 < cLine) : OpR X (compareOp .NotIn) (fun x y H Q => ∃ a o, y = .ref a ∧ DGet H a x o ∧ Q (.bl (!o.isSome)) H) := by
  intro pins s σ H x y v u Q I rx ry h
  obtain ⟨a, o, rfl, g, q⟩ := h
  obtain rfl : u = Value.ref a := ry
  exact d_notIn hu I g rx fun s' I' => ⟨.bl (!o.isSome), H, I', rfl, q⟩
theorem ix_dict (hu : X.A.units + 1 < cLine) : IxR X (fun x y H Q => ∃ a v, x = .ref a ∧ DGet H a y (some v) ∧ Q v H) := by
  intro value slice pins s σ H x y v u Q I rx ry h hs
  obtain ⟨a, w, rfl, g, q⟩ := h
  obtain rfl : v = Value.ref a := rx
  have hT := dict_typeIs I g
  unfold subscriptTail
  refine wpAny_bind ?_
  rw [getitemInPython_of_ne hT.not_modules]
  refine wpAny_bind (wpAny_specialOf hT PySem.F.slot_dict_getitem.lookup ?_)
  have fin : wpAny (model X.prog X.w) X.A (subscripted slice false (.ref a) u) (fun r s₃ => wpAny (model X.prog X.w) X.A (letTemporaryGo value (.ref a) r >>= fun _ => pure r) (EP X pins σ Q) X.xe s₃) X.xe s := by
    rw [hs]
    exact wpAny_operating (wpAny_mono (d_getItem hu I g ry fun w' s' I' r' => show EP X pins σ Q w' s' from ⟨w, H, I', r', q⟩) (fun r s₃ h₃ => wpAny_bind (wpAny_letTemporaryGo (wpAny_pure h₃))) fun _ _ x => x)
  first
    | exact wpAny_pure (wpAny_bind fin)
    | exact wpAny_bind (wpAny_pure (wpAny_bind fin))
    | exact wpAny_bind fin
theorem set_dict (hu : X.A.units + 1 < cLine) : PSet X (fun o i v H Q => ∃ a H', o = .ref a ∧ DPut H a i v H' ∧ Q H') := by
  intro pins s σ H o i v ov iv u Q I ro ri rv h
  obtain ⟨a, H', rfl, g, q⟩ := h
  obtain rfl : ov = Value.ref a := ro
  exact d_setItem hu I g ri rv fun s' I' => ⟨H', I', q⟩
theorem mt_get (hu : X.A.units + 1 < cLine) : MtR X "dict.get" (fun x xs H Q => ∃ a y d o, x = .ref a ∧ xs = [y, d] ∧ DGet H a y o ∧ Q (o.getD d) H) := by
  intro pins s σ H x xs v us Q I rx rs h
  obtain ⟨a, y, d, o, rfl, rfl, g, q⟩ := h
  obtain rfl : v = Value.ref a := rx
  obtain ⟨u, w, rfl, r1, r2⟩ := vals2 rs
  exact d_get2 hu I g r1 r2 fun w' s' I' r' => ⟨_, H, I', r', q⟩
end

/-! ### calls of one's own -/
section
variable {P : Program} {w : World} {K : PySem.W.Frag} {mg : Str → Option Value} {base : Heap}
def FnG (P : Program) (w : World) (K : PySem.W.Frag) (mg : Str → Option Value) (base : Heap) (k : Nat) (x : Str) (ps : List Str) (sp : Sp) : Prop :=
  ∃ f fd, FnOk P w K mg base CX0 k f fd ps sp ∧ mg x = some (.ref f) ∧ PySem.W.keepIn K (.ref f) = true ∧ Binds K fd ps []
def MtG (P : Program) (w : World) (K : PySem.W.Frag) (mg : Str → Option Value) (base : Heap) (k : Nat) (C : Addr) (m : Str) (ps : List Str) (sp : Sp) : Prop :=
  ∃ f fd, FnOk P w K mg base CX0 k f fd ps sp ∧ Meth K C m f ∧ Binds K fd ps [] ∧ Cls K C
def MkG (P : Program) (w : World) (K : PySem.W.Frag) (mg : Str → Option Value) (base : Heap) (k : Nat) (C : Addr) (x : Str) (ps : List Str) (sp : Sp) : Prop :=
  ∃ f fd, FnOk P w K mg base CX0 k f fd ps sp ∧ Mk K C f ∧ mg x = some (.ref C) ∧ Binds K fd ps []
def tFn (sp : Sp) (t : TA) : TE := fun σ H Q => t σ H fun vs H1 => sp vs H1 Q E0
def tMth (C : Addr) (m : Str) (sp : Sp) (ta : TE) (t : TA) : TE := fun σ H Q => ta σ H fun x H1 => ∃ a dx fs, x = .ref a ∧ H1 a = some (.ins C dx fs) ∧ fs.lookup m = none ∧
  t σ H1 fun vs H2 => sp (x :: vs) H2 Q E0
def tMk (C : Addr) (sp : Sp) (t : TA) : TE := fun σ H Q => t σ H fun vs H1 => ∀ x dx, H1 x = none → H1 dx = none → dx ≠ x →
  sp (.ref x :: vs) (upd (upd H1 dx (.own x)) x (.ins C dx [])) (fun v H2 => v = .non ∧ Q (.ref x) H2) E0
theorem tFn_eq {sp : Sp} {t : TA} : tCall sp [] E0 t = tFn sp t := by
  unfold tCall tFn
  simp only [List.append_nil]
theorem tMth_eq {C : Addr} {m : Str} {sp : Sp} {ta : TE} {t : TA} : tMeth C m sp [] E0 ta t = tMth C m sp ta t := by
  unfold tMeth tMth
  simp only [List.append_nil]
theorem tMk_eq {C : Addr} {sp : Sp} {t : TA} : tMake C sp [] E0 t = tMk C sp t := by
  unfold tMake tMk
  simp only [List.append_nil]
variable {X : Cx} {k : Nat} {C : Addr} {x m : Str} {ps : List Str} {sp : Sp} {e o : Expr} {es : List Expr} {p pos apos : Pos} {t : TA} {ta : TE}
theorem pe_fn (G : FnG X.prog X.w X.K X.mg X.base k x ps sp) (hr : Room k X.A) (hg : Gl X x) (ha : PA X (e :: es) t) (hdb : (x == ("__debug__" : Str)) = false := by decide)
    (he : starEach (e :: es) X.env = (false, eval e X.env) :: starEach es X.env := by rfl) (hpl : (backTo pos (starEach es X.env)).any (·.1) = false := by rfl) : PE X (.Call (.Name x p) (e :: es) [] pos) (tFn sp t) := by
  obtain ⟨f, fd, F, hm, hk, hb⟩ := G
  rw [← tFn_eq]
  exact pe_call F hr hg hm hk hb .nil pass0 ha hdb he hpl
theorem pe_mth {pl : Sem Bool} (G : MtG X.prog X.w X.K X.mg X.base k C m ps sp) (hr : Room k X.A) (ho : PE X o ta) (ha : PA X (e :: es) t)
    (hst : starEach (e :: es) X.env = (false, eval e X.env) :: starEach es X.env := by rfl) (hpl : (backTo pos (starEach es X.env)).any (·.1) = false := by rfl)
    (ht : eval (.Call (.Attribute o m apos) (e :: es) [] pos) X.env = (do
      let ov ← eval o X.env
      standAt apos.atName
      let (f, first) ← holding [ov] (getMethod ov m pl)
      callWith pos f first (backTo pos (starEach (e :: es) X.env)) (backToKw pos (keywordEach [] X.env))) := by rfl) : PE X (.Call (.Attribute o m apos) (e :: es) [] pos) (tMth C m sp ta t) := by
  obtain ⟨f, fd, F, hm, hb, c⟩ := G
  rw [← tMth_eq]
  exact pe_meth ho c hm F hr hb .nil pass0 ha hst hpl ht
theorem pe_mk (G : MkG X.prog X.w X.K X.mg X.base k C x ps sp) (hr : Room (k + 1) X.A) (hg : Gl X x) (ha : PA X (e :: es) t) (hdb : (x == ("__debug__" : Str)) = false := by decide)
    (he : starEach (e :: es) X.env = (false, eval e X.env) :: starEach es X.env := by rfl) (hpl : (backTo pos (starEach es X.env)).any (·.1) = false := by rfl) : PE X (.Call (.Name x p) (e :: es) [] pos) (tMk C sp t) := by
  obtain ⟨f, fd, F, M, hm, hb⟩ := G
  rw [← tMk_eq]
  exact pe_make M F hr hg hm hb .nil pass0 ha hdb he hpl
theorem pe_mk0 (G : MkG X.prog X.w X.K X.mg X.base k C x ps sp) (hr : Room (k + 1) X.A) (hg : Gl X x) (hdb : (x == ("__debug__" : Str)) = false := by decide) : PE X (.Call (.Name x p) [] [] pos) (tMk C sp tNil) := by
  obtain ⟨f, fd, F, M, hm, hb⟩ := G
  rw [← tMk_eq]
  exact pe_make0 M F hr hg hm hb .nil pass0 hdb
theorem r_fn {σ : L2.St} {H : Hp} {Q : VK} (k : t σ H fun vs H1 => sp vs H1 Q E0) : tFn sp t σ H Q := k
end
end WK
namespace WK
open PySem PySem.Spec PyProof.Rows L2
/-! ### globals -/
def GlI (mg : Str → Option Value) (x : Str) (i : Int) : Prop := ∃ t, mg x = some (.int i t)
def GlS (mg : Str → Option Value) (x : Str) (z : Str) : Prop := ∃ t, mg x = some (.str z t)
def GlV (mg : Str → Option Value) (x : Str) (v : V) : Prop := ∃ u, mg x = some u ∧ RelV v u
section
variable {X : Cx} {x : Str} {pos : Pos}
theorem pe_gi {i : Int} (h : GlI X.mg x i) (hg : Gl X x) (hd : (x == ("__debug__" : Str)) = false := by decide) : PE X (.Name x pos) (tC (.int i)) := by
  obtain ⟨t, e⟩ := h
  exact pe_glob hg e ⟨t, rfl⟩ hd
theorem pe_gs {z : Str} (h : GlS X.mg x z) (hg : Gl X x) (hd : (x == ("__debug__" : Str)) = false := by decide) : PE X (.Name x pos) (tC (.str z)) := by
  obtain ⟨t, e⟩ := h
  exact pe_glob hg e ⟨t, rfl⟩ hd
theorem pe_gv {v : V} (h : GlV X.mg x v) (hg : Gl X x) (hd : (x == ("__debug__" : Str)) = false := by decide) : PE X (.Name x pos) (tC v) := by
  obtain ⟨u, e, r⟩ := h
  exact pe_glob hg e r hd
end
theorem b_len : bootBuiltins "len" = some (.builtin "len") := by decide +kernel
theorem b_all : bootBuiltins "all" = some (.builtin "all") := by decide +kernel
theorem b_max : bootBuiltins "max" = some (.builtin "max") := by decide +kernel
theorem b_isinstance : bootBuiltins "isinstance" = some (.builtin "isinstance") := by decide +kernel
theorem b_int : bootBuiltins "int" = some (.type "int") := by decide +kernel
theorem b_str : bootBuiltins "str" = some (.type "str") := by decide +kernel
theorem b_list : bootBuiltins "list" = some (.type "list") := by decide +kernel
theorem b_tuple : bootBuiltins "tuple" = some (.type "tuple") := by decide +kernel
theorem b_set : bootBuiltins "set" = some (.type "set") := by decide +kernel
/-! ### more by values -/
section
variable {P : Program} {w : World} {K : PySem.W.Frag} {H B : Hp} {Q : VK} {F : Ent} {L L1 L2 : Led}
theorem v_ixL {p : Addr} {xs : List V} {i : Int} {v : V} (h : SqL K H p xs) (ha : atI xs i = some v) (k : Q v H) : IxU P w K (.ref p) (.int i) H Q := .ofK (r := rIxL) (fun _ _ => ix_list) ⟨p, xs, i, v, rfl, rfl, h, ha, k⟩
theorem v_ixT {p : Addr} {xs : List V} {i : Int} {v : V} (h : SqT K H p xs) (ha : atI xs i = some v) (k : Q v H) : IxU P w K (.ref p) (.int i) H Q := .ofK (r := rIxT) (fun _ _ => ix_tup) ⟨p, xs, i, v, rfl, rfl, h, ha, k⟩
theorem v_ixS {z : Str} {i : Int} {c : Nat} (hz : z.length ≤ sizeLine) (ha : atI z.cps.toList i = some c) (k : Q (.str ⟨#[c]⟩) H) : IxU P w K (.str z) (.int i) H Q := .of (fun _ _ => ix_str) ⟨z, i, c, rfl, rfl, hz, ha, k⟩
theorem v_ixD {p : Addr} {y v : V} (h : DGet H p y (some v)) (k : Q v H) : IxU P w K (.ref p) y H Q := .of (fun _ al => ix_dict al.hu) ⟨p, v, rfl, h, k⟩
theorem v_getD {p : Addr} {y v : V} (h : DGet H p y (some v)) (k : Q v H) : GetU P w K (.ref p) y H Q := by
  intro X pins s σ ov iv al I r1 r2
  obtain rfl : ov = Value.ref p := r1
  exact d_getItem al.hu I h r2 fun w' s' I' r' => ⟨v, H, I', r', k⟩
theorem v_setD {p : Addr} {y v : V} {H' : Hp} {Q : Hp → Prop} (h : DPut H p y v H') (k : Q H') : SetU P w K (.ref p) y v H Q := .of (fun _ al => set_dict al.hu) ⟨p, H', rfl, h, k⟩
theorem v_inD {p : Addr} {y : V} {o : Option V} (h : DGet H p y o) (k : Q (.bl o.isSome) H) : OpU P w K (compareOp .In) y (.ref p) H Q := .of (fun _ al => op_dIn al.hu) ⟨p, o, rfl, h, k⟩
theorem v_notInD {p : Addr} {y : V} {o : Option V} (h : DGet H p y o) (k : Q (.bl (!o.isSome)) H) : OpU P w K (compareOp .NotIn) y (.ref p) H Q := .of (fun _ al => op_dNotIn al.hu) ⟨p, o, rfl, h, k⟩
theorem v_get2 {p : Addr} {y d : V} {o : Option V} (h : DGet H p y o) (k : Q (o.getD d) H) : MetU P w K "dict.get" (.ref p) [y, d] H Q := .of (fun _ al => mt_get al.hu) ⟨p, y, d, o, rfl, rfl, h, k⟩
/-- one's own list, changed -/
theorem v_append {p : Addr} {xs : List V} {y : V} (S : Ok F B ((p, .lst xs) :: L) H) (hz : xs.length < sizeLine) (k : ∀ H', Ok F B ((p, .lst (xs ++ [y])) :: L) H' → Q .non H') : MetU P w K "list.append" (.ref p) [y] H Q :=
  .of (fun _ _ => mt_append) ⟨p, xs, y, rfl, rfl, (S.own _ (List.mem_cons_self ..)).1, hz, k _ S.mut⟩
theorem v_cat {p q : Addr} {xs zs : List V} (S : Ok F B L H) (h1 : H p = some (.lst xs)) (h2 : H q = some (.lst zs)) (hz : xs.length + zs.length ≤ sizeLine) (k : ∀ r H', Ok F B ((r, .lst (xs ++ zs)) :: L) H' → Q (.ref r) H') : OpU P w K (binaryOp .Add) (.ref p) (.ref q) H Q :=
  .of (fun _ _ => op_cat) ⟨p, q, xs, zs, rfl, rfl, h1, h2, hz, fun r hr => k r _ (S.newL hr)⟩
theorem v_len {x : V} {n : Nat} (h : LenV K x H n) (k : Q (.int n) H) : CallU P w K (.builtin "len") [x] H Q := .ofK (r := fun K xs H Q => ∃ x n, xs = [x] ∧ LenV K x H n ∧ Q (.int n) H) (fun _ _ => call_len) ⟨x, n, rfl, h, k⟩
theorem v_max2 {i j : Int} (k : Q (.int (if j > i then j else i)) H) : CallU P w K (.builtin "max") [.int i, .int j] H Q := .of (fun _ al => call_max2 al.calm) ⟨i, j, rfl, k⟩
theorem v_min2 {i j : Int} (k : Q (.int (if j < i then j else i)) H) : CallU P w K (.builtin "min") [.int i, .int j] H Q := .of (fun _ al => call_min2 al.calm) ⟨i, j, rfl, k⟩
theorem v_listOf {p : Addr} {xs : List V} (S : Ok F B L H) (h : SqL K H p xs ∨ SqT K H p xs) (k : ∀ r H', Ok F B ((r, .lst xs) :: L) H' → Q (.ref r) H') : CallU P w K (.type "list") [.ref p] H Q :=
  .ofK (r := fun K vs H Q => ∃ p ys, vs = [.ref p] ∧ (SqL K H p ys ∨ SqT K H p ys) ∧ ∀ l, H l = none → Q (.ref l) (upd H l (.lst ys))) (fun _ _ => call_list_of) ⟨p, xs, rfl, h, fun l hl => k l _ (S.newL hl)⟩
end
/-! new things -/
section
variable {σ : L2.St} {H B : Hp} {Q : VK} {F : Ent} {L : Led} {t : TA}
def NewT (xs : List V) (H : Hp) (Q : VK) : Prop := xs.length ≤ sizeLine ∧ ∀ p, H p = none → Q (.ref p) (upd H p (.tup xs))
def NewL (xs : List V) (H : Hp) (Q : VK) : Prop := xs.length ≤ sizeLine ∧ ∀ p, H p = none → Q (.ref p) (upd H p (.lst xs))
theorem r_tup (k : t σ H fun xs H1 => NewT xs H1 Q) : tTup t σ H Q := k
theorem r_lst (k : t σ H fun xs H1 => NewL xs H1 Q) : tLst t σ H Q := k
theorem new_tup {xs : List V} (S : Ok F B L H) (hz : xs.length ≤ sizeLine) (k : ∀ p B' H', Ex B B' → B' p = some (.tup xs) → Ok F B' L H' → Q (.ref p) H') : NewT xs H Q :=
  ⟨hz, fun p hp => k p _ _ (S.exB hp) upd_same (S.newB hp)⟩
theorem new_lst {xs : List V} (S : Ok F B L H) (hz : xs.length ≤ sizeLine) (k : ∀ p H', Ok F B ((p, .lst xs) :: L) H' → Q (.ref p) H') : NewL xs H Q :=
  ⟨hz, fun p hp => k p _ (S.newL hp)⟩
theorem new_dK (S : Ok F B L H) (k : ∀ p H', Ok F B ((p, .dK []) :: L) H' → Q (.ref p) H') : tDNewK σ H Q := fun p hp => k p _ (S.newL hp)
end
theorem Ok.sub {F : Ent} {B H : Hp} {L1 L2 : Led} (S : Ok F B (L1 ++ L2) H) : Ok ⟨B, H, L1.map (·.1)⟩ B L1 H :=
  Ok.start S.ex (by have := S.nd; rw [List.map_append, List.nodup_append] at this; exact this.1) fun q hq => S.own q (List.mem_append_left _ hq)
end WK
namespace WK
open PySem PySem.Spec PyProof.Rows L2
theorem with_al {P : Program} {w : World} {K : PySem.W.Frag} {X : Cx} {k : Nat} {sts : List Stmt} {D : Ends} {σ : L2.St} {H : Hp} (hr : Room k X.A) (h : Al P w K X → ∃ t, PSs X sts t ∧ t D σ H) (h1 : X.prog = P := by rfl) (h2 : X.w = w := by rfl) (h3 : X.K = K := by rfl) (h4 : X.calm = true := by rfl) :
    ∃ t, PSs X sts t ∧ t D σ H := h (al_of hr h1 h2 h3 h4)
section
variable {P : Program} {w : World} {K : PySem.W.Frag} {σ : L2.St} {H : Hp} {D : Ends} {g : TG} {tb : TS} {tg : Expr} {te : TE}
theorem forL {a : Addr} {xs : List V} (hx : SqL K H a xs) (Pv : Nat → L2.St → Hp → Prop) (hl : ∀ i σ H, i ≤ xs.length → Pv i σ H → SqL K H a xs) (h0 : Pv 0 σ H)
    (hs : ∀ i x σ H, xs[i]? = some x → Pv i σ H → g x σ H fun σ2 H2 => tb { D with nx := Pv (i + 1), ct := Pv (i + 1), bk := D.nx } σ2 H2) (hd : ∀ σ H, Pv xs.length σ H → D.nx σ H) :
    ItU P w K tg (.ref a) H fun J H1 => ∃ W : Nat → Nat → L2.St → Hp → Prop, (∃ m, W 0 m σ H1) ∧ ∀ i m σ H, W i m σ H →
      (J.stop i H ∧ D.nx σ H) ∨ (J.go i H ∧ ∃ N : L2.St → Hp → Prop, (∀ σ' H', N σ' H' → ∃ m', m' < m ∧ W (i + 1) m' σ' H') ∧ ∀ x H', J.yld i H x H' → g x σ H' fun σ2 H2 => tb { D with nx := N, ct := N, bk := D.nx } σ2 H2) :=
  .list hx (for_list Pv h0 hl hs hd)
end
end WK
namespace WK
open PySem PySem.Spec PyProof.Rows L2
section
variable {P : Program} {w : World} {K : PySem.W.Frag} {H B : Hp} {Q : VK} {F : Ent} {L L1 L2 : Led} {a : Addr} {xs : List V} {o : HO}
theorem Ok.mem (S : Ok F B L H) (h : (a, o) ∈ L) : H a = some o := (S.own _ h).1
theorem Ok.sqMem (S : Ok F B L H) (h : (a, HO.lst xs) ∈ L) : SqL K H a xs := .inl (.inl (S.own _ h).1)
theorem Ok.sqStay (S : Ok F B L H) (h : B a = some (.lst xs)) : SqL K H a xs := .inl (.inl (S.ex _ _ h))
theorem Ok.tqStay (S : Ok F B L H) (h : B a = some (.tup xs)) : SqT K H a xs := .inl (.inl (S.ex _ _ h))
theorem Ok.stay (S : Ok F B L H) (h : B a = some o) : H a = some o := S.ex _ _ h
theorem Ok.dp {v : V} {d : PyData} (S : Ok F B L H) (h : Dp K B v d) : Dp K H v d := h.up S.ex
theorem v_lenL (h : SqL K H a xs) (k : Q (.int xs.length) H) : CallU P w K (.builtin "len") [.ref a] H Q := v_len (.inl ⟨xs, h, rfl⟩) k
theorem v_lenT (h : SqT K H a xs) (k : Q (.int xs.length) H) : CallU P w K (.builtin "len") [.ref a] H Q := v_len (.inr ⟨xs, h, rfl⟩) k
theorem v_lenS {z : Str} (h : z.length ≤ sizeLine) (k : Q (.int z.length) H) : CallU P w K (.builtin "len") [.str z] H Q := v_len (n := z.length) ⟨h, rfl⟩ k
/-- an item of known data -/
theorem v_ixDT {v : V} {ds : List PyData} {d : PyData} {i : Int} {j : Nat} (S : Ok F B L H) (h : Dp K B v (.tuple ds)) (hi : i = (j : Int)) (hj : ds[j]? = some d) (k : ∀ u, Dp K B u d → Q u H) : IxU P w K v (.int i) H Q := by
  obtain ⟨a, xs, rfl, hq, ha⟩ := Dp.tup_inv h
  obtain ⟨u, hu, hd⟩ := ha.get' hj
  subst hi
  exact v_ixT (S.tqB hq) (atI_nat hu) (k u hd)
theorem ixN_of {n j : Nat} {i : Int} (e : i = (j : Int)) (h : j < n) : ixN n i = some j := by
  subst e
  unfold ixN
  rw [if_pos (by omega), if_pos (by omega)]
  simp
theorem Ok.swap {p q : Addr × HO} (S : Ok F B (p :: q :: L) H) : Ok F B (q :: p :: L) H := S.perm (.swap ..)
end
end WK
namespace WK
open PySem PySem.Spec PyProof.Rows L2
section
variable {P : Program} {w : World} {K : PySem.W.Frag} {H B : Hp} {Q : VK} {F : Ent} {L L1 L2 : Led} {a p : Addr} {xs : List V} {o o' : HO}
theorem Ok.mutN (S : Ok F B L H) (n : Nat) (h : L[n]? = some (p, o)) : Ok F B (L.set n (p, o')) (upd H p o') := by
  obtain ⟨hn, e⟩ := List.getElem?_eq_some_iff.mp h
  have e1 : L = L.take n ++ (p, o) :: L.drop (n + 1) := by rw [← e, List.getElem_cons_drop, List.take_append_drop]
  have e2 : L.set n (p, o') = L.take n ++ (p, o') :: L.drop (n + 1) := by rw [List.set_eq_take_append_cons_drop, if_pos hn]
  rw [e2]
  rw [e1] at S
  exact S.mutAt
theorem v_appendN {y : V} (n : Nat) (S : Ok F B L H) (h : L[n]? = some (p, .lst xs)) (hz : xs.length < sizeLine) (k : ∀ H', Ok F B (L.set n (p, .lst (xs ++ [y]))) H' → Q .non H') : MetU P w K "list.append" (.ref p) [y] H Q :=
  .of (fun _ _ => mt_append) ⟨p, xs, y, rfl, rfl, (S.own _ (List.mem_of_getElem? h)).1, hz, k _ (S.mutN n h)⟩
theorem v_setLN {i : Int} {j : Nat} {y : V} {Q : Hp → Prop} (n : Nat) (S : Ok F B L H) (h : L[n]? = some (p, .lst xs)) (hj : ixN xs.length i = some j) (k : ∀ H', Ok F B (L.set n (p, .lst (xs.set j y))) H' → Q H') : SetU P w K (.ref p) (.int i) y H Q :=
  .of (fun _ _ => set_list) ⟨p, xs, i, j, rfl, rfl, (S.own _ (List.mem_of_getElem? h)).1, hj, k _ (S.mutN n h)⟩
theorem v_setKN {kvs : List (Key × V)} {y v : V} {k : Key} {Q : Hp → Prop} (n : Nat) (S : Ok F B L H) (h : L[n]? = some (p, .dK kvs)) (hy : y = kV k) (hz : kvs.length < sizeLine) (q : ∀ H', Ok F B (L.set n (p, .dK (putK kvs k v))) H' → Q H') : SetU P w K (.ref p) y v H Q := by
  subst hy
  exact v_setD (DPut.k (S.own _ (List.mem_of_getElem? h)).1 hz) (q _ (S.mutN n h))
end
end WK
namespace WK
open PySem PySem.Spec PyProof.Rows L2
section
variable {F : Ent} {B B0 H H0 : Hp} {L : Led} {a : Addr} {o : HO}
/-- what stood at an entry whose own things may not change -/
theorem Ok.kept (S : Ok ⟨B0, H0, []⟩ B L H) (h : H0 a = some o) : H a = some o := S.keep a o h (by simp)
theorem Ok.keptRd (S : Ok ⟨B0, H0, []⟩ B L H) (h : Rd H0 a o) : Rd H a o := by
  rcases h with h | ⟨u, h⟩
  · exact .inl (S.kept h)
  · exact .inr ⟨u, S.kept h⟩
theorem dgetS {kvs : List (Key × V)} {k : Str} (e : Rd H a (.dK kvs)) : DGet H a (.str k) (valV kvs (.inr k)) := .inl ⟨kvs, .inr k, e, rfl, rfl⟩
end
end WK
namespace WK
open PySem PySem.Spec PyProof.Rows L2
section
variable {P : Program} {w : World} {K : PySem.W.Frag} {F : Ent} {B H : Hp} {L : Led} {a : Addr} {o : HO} {od : Obj} {Q : VK} {kvs : List (Key × V)}
theorem Ok.rdMem (S : Ok F B L H) (h : (a, o) ∈ L) : Rd H a o := .inl (S.own _ h).1
theorem Ok.rdMemF (S : Ok F B L H) (h : (a, HO.frz od o) ∈ L) : Rd H a o := .inr ⟨od, (S.own _ h).1⟩
theorem Ok.rdStay (S : Ok F B L H) (h : B a = some o) : Rd H a o := .inl (S.ex _ _ h)
theorem Ok.rdStayF (S : Ok F B L H) (h : B a = some (.frz od o)) : Rd H a o := .inr ⟨od, S.ex _ _ h⟩
theorem v_inDS {z : Str} (h : Rd H a (.dK kvs)) (k : Q (.bl (valV kvs (.inr z)).isSome) H) : OpU P w K (compareOp .In) (.str z) (.ref a) H Q := v_inD (dgetS h) k
theorem v_notInDS {z : Str} (h : Rd H a (.dK kvs)) (k : Q (.bl (!(valV kvs (.inr z)).isSome)) H) : OpU P w K (compareOp .NotIn) (.str z) (.ref a) H Q := v_notInD (dgetS h) k
theorem v_ixDS {z : Str} {v : V} (h : Rd H a (.dK kvs)) (e : valV kvs (.inr z) = some v) (k : Q v H) : IxU P w K (.ref a) (.str z) H Q := v_ixD (by rw [← e]; exact dgetS h) k
theorem v_getDS {z : Str} {v : V} (h : Rd H a (.dK kvs)) (e : valV kvs (.inr z) = some v) (k : Q v H) : GetU P w K (.ref a) (.str z) H Q := v_getD (by rw [← e]; exact dgetS h) k
theorem v_get2S {z : Str} {d : V} (h : Rd H a (.dK kvs)) (k : Q ((valV kvs (.inr z)).getD d) H) : MetU P w K "dict.get" (.ref a) [.str z, d] H Q := v_get2 (dgetS h) k
theorem v_ipAdd {i j : Int} (k : Q (.int (i + j)) H) : IpU P w K .Add (.int i) (.int j) H Q := .of (fun _ _ => ip_add) ⟨i, j, rfl, rfl, k⟩
theorem v_ipSub {i j : Int} (k : Q (.int (i - j)) H) : IpU P w K .Sub (.int i) (.int j) H Q := .of (fun _ _ => ip_sub) ⟨i, j, rfl, rfl, k⟩
theorem valV_some_iff {κ : Type} [DecidableEq κ] {kvs : List (κ × V)} {k : κ} : (valV kvs k).isSome = true ↔ k ∈ kvs.map (·.1) := by
  unfold valV
  rw [Option.isSome_map, List.find?_isSome]
  simp only [decide_eq_true_eq, List.mem_map]
theorem valV_isSome_false {κ : Type} [DecidableEq κ] {kvs : List (κ × V)} {k : κ} (h : k ∉ kvs.map (·.1)) : (valV kvs k).isSome = false := by
  cases e : (valV kvs k).isSome with
  | false => rfl
  | true => exact absurd (valV_some_iff.mp e) h
theorem valV_isSome_true {κ : Type} [DecidableEq κ] {kvs : List (κ × V)} {k : κ} (h : k ∈ kvs.map (·.1)) : (valV kvs k).isSome = true := valV_some_iff.mpr h
end
end WK
namespace WK
theorem ifTT {A B : Prop} (k : A) : if true = true then A else B := by rw [if_pos rfl]; exact k
theorem ifFF {A B : Prop} (k : B) : if false = true then A else B := by rw [if_neg Bool.false_ne_true]; exact k
theorem ifNT {A B : Prop} (k : B) : if (!true) = true then A else B := by rw [if_neg (by decide)]; exact k
theorem ifNF {A B : Prop} (k : A) : if (!false) = true then A else B := by rw [if_pos (by decide)]; exact k
theorem ifnd {c : Prop} {inst : Decidable c} {A B : Prop} (h1 : c → B) (h2 : ¬ c → A) : if (!decide c) = true then A else B := by
  by_cases h : c
  · rw [decide_eq_true h]; exact ifNT (h1 h)
  · rw [decide_eq_false h]; exact ifNF (h2 h)
theorem ifndT {c : Prop} {inst : Decidable c} {A B : Prop} (h : c) (k : B) : if (!decide c) = true then A else B := by rw [decide_eq_true h]; exact ifNT k
theorem ifndF {c : Prop} {inst : Decidable c} {A B : Prop} (h : ¬ c) (k : A) : if (!decide c) = true then A else B := by rw [decide_eq_false h]; exact ifNF k
end WK
namespace WK
open PySem PySem.Spec PyProof.Rows L2
/-- the slots with one set, written out -/
inductive SlotSet : L2.St → Nat → Option V → L2.St → Prop where
  | zero {x v : Option V} {l : L2.St} : SlotSet (x :: l) 0 v (v :: l)
  | succ {x v : Option V} {l l' : L2.St} {i : Nat} : SlotSet l i v l' → SlotSet (x :: l) (i + 1) v (x :: l')
theorem SlotSet.eq {l l' : L2.St} {i : Nat} {v : Option V} (h : SlotSet l i v l') : l.set i v = l' := by
  induction h with
  | zero => rfl
  | succ _ ih => rw [List.set_cons_succ, ih]
theorem r_nameS {i : Nat} {v : V} {σ σ' : L2.St} {H : Hp} {Q : L2.St → Hp → Prop} (h : SlotSet σ i (some v) σ') (k : Q σ' H) : gName i v σ H Q := by
  unfold gName
  rw [h.eq]
  exact k
end WK

namespace WK
open PySem PySem.Spec PyProof.Rows L2
/-! ### what is walked, told by data -/
def ForW (g : TG) (tb : TS) (D : Ends) (σ : L2.St) : It → Hp → Prop := fun J H1 => ∃ W : Nat → Nat → L2.St → Hp → Prop, (∃ m, W 0 m σ H1) ∧ ∀ i m σ H, W i m σ H →
  (J.stop i H ∧ D.nx σ H) ∨ (J.go i H ∧ ∃ N : L2.St → Hp → Prop, (∀ σ' H', N σ' H' → ∃ m', m' < m ∧ W (i + 1) m' σ' H') ∧ ∀ x H', J.yld i H x H' → g x σ H' fun σ2 H2 => tb { D with nx := N, ct := N, bk := D.nx } σ2 H2)
def LcW (g : TG) (tt : TT) (te : TE) (vs : List Nat) (σ : L2.St) (Q : VK) : It → Hp → Prop := fun J H1 => ∀ D, H1 D = none → ∃ W : Nat → Nat → Hp → Prop, (∃ m, W 0 m (upd H1 D (.lst []))) ∧ ∀ i m H, W i m H →
  (J.stop i H ∧ Q (.ref D) H) ∨ (J.go i H ∧ ∃ Nx : Hp → Prop, (∀ H', Nx H' → ∃ m', m' < m ∧ W (i + 1) m' H') ∧ ∀ x H', J.yld i H x H' → g x (wipe σ vs) H' fun σ2 H2 => wipe σ2 vs = wipe σ vs ∧ tt σ2 H2 fun b H3 =>
    if b = true then te σ2 H3 fun y H4 => ∃ acc, H4 D = some (.lst acc) ∧ acc.length < sizeLine ∧ Nx (upd H4 D (.lst (acc ++ [y]))) else Nx H3)
def DcW (g : TG) (tt : TT) (tk tv : TE) (vs : List Nat) (σ : L2.St) (Q : VK) : It → Hp → Prop := fun J H1 => ∀ D, H1 D = none → ∃ W : Nat → Nat → Hp → Prop, (∃ m, W 0 m (upd H1 D (.dK []))) ∧ ∀ i m H, W i m H →
  (J.stop i H ∧ Q (.ref D) H) ∨ (J.go i H ∧ ∃ Nx : Hp → Prop, (∀ H', Nx H' → ∃ m', m' < m ∧ W (i + 1) m' H') ∧ ∀ x H', J.yld i H x H' → g x (wipe σ vs) H' fun σ2 H2 => wipe σ2 vs = wipe σ vs ∧ tt σ2 H2 fun b H3 =>
    if b = true then tk σ2 H3 fun y H4 => tv σ2 H4 fun z H5 => ∃ kvs k, y = kV k ∧ H5 D = some (.dK kvs) ∧ kvs.length < sizeLine ∧ Nx (upd H5 D (.dK (putK kvs k z))) else Nx H3)
structure Src {α : Type} (J : It) (GB : Hp → Led → Prop) (as : List α) (R : Hp → V → α → Prop) : Prop where
  ex : ∃ (G : Hp → Prop) (Y : Nat → Hp → V → Hp → Prop), Walk J as.length G Y ∧ (∀ F B L H, Ok F B L H → GB B L → G H) ∧
    ∀ F B L i H x H', Ok F B L H → GB B L → Y i H x H' → i < as.length → ∃ a B', as[i]? = some a ∧ Ex B B' ∧ Ok F B' L H' ∧ R B' x a
section
variable {α : Type} {J : It} {GB : Hp → Led → Prop} {as : List α} {R : Hp → V → α → Prop} {F : Ent} {B H H1 : Hp} {L : Led} {σ : L2.St}
/-- what a turn of a loop is to reach -/
def Nxt (F : Ent) (I : L2.St → Hp → Led → Prop) : L2.St → Hp → Prop := fun σ H => ∃ B L, Ok F B L H ∧ I σ B L
theorem Nxt.mk {I : L2.St → Hp → Led → Prop} (S : Ok F B L H) (h : I σ B L) : Nxt F I σ H := ⟨B, L, S, h⟩
/-- what an element of a comprehension is to reach: the new list at D holds acc, then one more -/
def Acc (F : Ent) (I : List V → Hp → Led → Prop) (D : Addr) : VK := fun y H => ∃ acc, H D = some (.lst acc) ∧ acc.length < sizeLine ∧ ∃ acc' B L, Ok F B ((D, .lst acc') :: L) (upd H D (.lst (acc ++ [y]))) ∧ I acc' B L
def Skp (F : Ent) (I : List V → Hp → Led → Prop) (D : Addr) : Hp → Prop := fun H => ∃ acc' B L, Ok F B ((D, .lst acc') :: L) H ∧ I acc' B L
theorem Acc.mk {I : List V → Hp → Led → Prop} {D : Addr} {acc : List V} {y : V} (S : Ok F B ((D, .lst acc) :: L) H) (hz : acc.length < sizeLine) (h : I (acc ++ [y]) B L) : Acc F I D y H :=
  ⟨acc, (S.own _ (List.mem_cons_self ..)).1, hz, _, B, L, S.mut, h⟩
theorem Skp.mk {I : List V → Hp → Led → Prop} {D : Addr} {acc : List V} (S : Ok F B ((D, .lst acc) :: L) H) (h : I acc B L) : Skp F I D H := ⟨acc, B, L, S, h⟩
theorem lcD (src : Src J GB as R) {g : TG} {tt : TT} {te : TE} {vs : List Nat} {Q : VK} (S : Ok F B L H1) (I : Nat → List V → Hp → Led → Prop) (h0 : I 0 [] B L) (hG : ∀ i acc B L D, i ≤ as.length → I i acc B L → GB B ((D, .lst acc) :: L))
    (hs : ∀ i a x acc B0 B L D H, as[i]? = some a → I i acc B0 L → Ex B0 B → Ok F B ((D, .lst acc) :: L) H → R B x a → g x (wipe σ vs) H fun σ2 H2 => wipe σ2 vs = wipe σ vs ∧ tt σ2 H2 fun b H3 =>
      if b = true then te σ2 H3 (Acc F (I (i + 1)) D) else Skp F (I (i + 1)) D H3)
    (hd : ∀ acc B L D H, I as.length acc B L → Ok F B ((D, .lst acc) :: L) H → Q (.ref D) H) :
    LcW g tt te vs σ Q J H1 := by
  intro D hD
  obtain ⟨G, Y, w, h1, h2⟩ := src.ex
  refine lc_it w (fun i H => ∃ acc B L, Ok F B ((D, .lst acc) :: L) H ∧ I i acc B L) ⟨[], B, L, S.newL hD, h0⟩ (fun i H hi ⟨acc, B, L, S, q⟩ => h1 F B _ H S (hG i acc B L D hi q)) (fun i x H H' hi ⟨acc, B, L, S, q⟩ y => ?_) (fun H ⟨acc, B, L, S, q⟩ => hd acc B L D H q S)
  obtain ⟨a, B', e, ex, S', r⟩ := h2 F B _ i H x H' S (hG i acc B L D (Nat.le_of_lt hi) q) y hi
  exact hs i a x acc B B' L D H' e q ex S' r
/-- .. of a dict -/
def AccD (F : Ent) (I : List (Key × V) → Hp → Led → Prop) (D : Addr) (y : V) : VK := fun z H => ∃ kvs k, y = kV k ∧ H D = some (.dK kvs) ∧ kvs.length < sizeLine ∧ ∃ kvs' B L, Ok F B ((D, .dK kvs') :: L) (upd H D (.dK (putK kvs k z))) ∧ I kvs' B L
def SkpD (F : Ent) (I : List (Key × V) → Hp → Led → Prop) (D : Addr) : Hp → Prop := fun H => ∃ kvs' B L, Ok F B ((D, .dK kvs') :: L) H ∧ I kvs' B L
theorem AccD.mk {I : List (Key × V) → Hp → Led → Prop} {D : Addr} {kvs : List (Key × V)} {y z : V} {k : Key} (S : Ok F B ((D, .dK kvs) :: L) H) (e : y = kV k) (hz : kvs.length < sizeLine) (h : I (putK kvs k z) B L) : AccD F I D y z H :=
  ⟨kvs, k, e, (S.own _ (List.mem_cons_self ..)).1, hz, _, B, L, S.mut, h⟩
theorem SkpD.mk {I : List (Key × V) → Hp → Led → Prop} {D : Addr} {kvs : List (Key × V)} (S : Ok F B ((D, .dK kvs) :: L) H) (h : I kvs B L) : SkpD F I D H := ⟨kvs, B, L, S, h⟩
theorem dc_it {n : Nat} {G : Hp → Prop} {Y : Nat → Hp → V → Hp → Prop} (w : Walk J n G Y) {g : TG} {tt : TT} {tk tv : TE} {vs : List Nat} {D : Addr} {Qd : Hp → Prop} (Pv : Nat → Hp → Prop) (h0 : Pv 0 (upd H1 D (.dK []))) (hG : ∀ i H, i ≤ n → Pv i H → G H)
    (hs : ∀ i x H H', i < n → Pv i H → Y i H x H' → g x (wipe σ vs) H' fun σ2 H2 => wipe σ2 vs = wipe σ vs ∧ tt σ2 H2 fun b H3 =>
      if b = true then tk σ2 H3 fun y H4 => tv σ2 H4 fun z H5 => ∃ kvs k, y = kV k ∧ H5 D = some (.dK kvs) ∧ kvs.length < sizeLine ∧ Pv (i + 1) (upd H5 D (.dK (putK kvs k z))) else Pv (i + 1) H3) (hd : ∀ H, Pv n H → Qd H) :
    ∃ W : Nat → Nat → Hp → Prop, (∃ m, W 0 m (upd H1 D (.dK []))) ∧ ∀ i m H, W i m H →
      (J.stop i H ∧ Qd H) ∨ (J.go i H ∧ ∃ Nx : Hp → Prop, (∀ H', Nx H' → ∃ m', m' < m ∧ W (i + 1) m' H') ∧ ∀ x H', J.yld i H x H' → g x (wipe σ vs) H' fun σ2 H2 => wipe σ2 vs = wipe σ vs ∧ tt σ2 H2 fun b H3 =>
        if b = true then tk σ2 H3 fun y H4 => tv σ2 H4 fun z H5 => ∃ kvs k, y = kV k ∧ H5 D = some (.dK kvs) ∧ kvs.length < sizeLine ∧ Nx (upd H5 D (.dK (putK kvs k z))) else Nx H3) := by
  refine ⟨fun i m H => m = n - i ∧ i ≤ n ∧ Pv i H, ⟨n, by simp, Nat.zero_le _, h0⟩, ?_⟩
  rintro i m H ⟨rfl, hi, p⟩
  have q := hG i H hi p
  by_cases hlt : i < n
  · refine .inr ⟨w.goes i H hlt q, Pv (i + 1), fun H' p' => ⟨n - (i + 1), by omega, rfl, hlt, p'⟩, fun x H' y => hs i x H H' hlt p (w.yields i H x H' hlt q y)⟩
  · have e : i = n := by omega
    subst e
    exact .inl ⟨w.stops H q, hd H p⟩
theorem dcD (src : Src J GB as R) {g : TG} {tt : TT} {tk tv : TE} {vs : List Nat} {Q : VK} (S : Ok F B L H1) (I : Nat → List (Key × V) → Hp → Led → Prop) (h0 : I 0 [] B L) (hG : ∀ i acc B L D, i ≤ as.length → I i acc B L → GB B ((D, .dK acc) :: L))
    (hs : ∀ i a x acc B0 B L D H, as[i]? = some a → I i acc B0 L → Ex B0 B → Ok F B ((D, .dK acc) :: L) H → R B x a → g x (wipe σ vs) H fun σ2 H2 => wipe σ2 vs = wipe σ vs ∧ tt σ2 H2 fun b H3 =>
      if b = true then tk σ2 H3 fun y H4 => tv σ2 H4 (AccD F (I (i + 1)) D y) else SkpD F (I (i + 1)) D H3)
    (hd : ∀ acc B L D H, I as.length acc B L → Ok F B ((D, .dK acc) :: L) H → Q (.ref D) H) :
    DcW g tt tk tv vs σ Q J H1 := by
  intro D hD
  obtain ⟨G, Y, w, h1, h2⟩ := src.ex
  refine dc_it w (fun i H => ∃ acc B L, Ok F B ((D, .dK acc) :: L) H ∧ I i acc B L) ⟨[], B, L, S.newL hD, h0⟩ (fun i H hi ⟨acc, B, L, S, q⟩ => h1 F B _ H S (hG i acc B L D hi q)) (fun i x H H' hi ⟨acc, B, L, S, q⟩ y => ?_) (fun H ⟨acc, B, L, S, q⟩ => hd acc B L D H q S)
  obtain ⟨a, B', e, ex, S', r⟩ := h2 F B _ i H x H' S (hG i acc B L D (Nat.le_of_lt hi) q) y hi
  exact hs i a x acc B B' L D H' e q ex S' r
end

/-! sources -/
section
variable {α : Type} {K : PySem.W.Frag} {a d : Addr} {xs : List V} {o : Obj}
theorem src_lst {as : List α} {enc : α → PyData} : Src (Itl K a) (fun B L => (SqL K B a xs ∨ (a, HO.lst xs) ∈ L) ∧ DpAll K B xs (as.map enc)) as (fun B x y => Dp K B x (enc y)) := by
  by_cases hl : xs.length = as.length
  · refine ⟨_, _, hl ▸ walk_list (xs := xs), fun F B L H S g => ?_, fun F B L i H x H' S g y hi => ?_⟩
    · rcases g.1 with h | h
      · exact S.sqB h
      · exact S.sqMem h
    · obtain ⟨rfl, y⟩ := y
      obtain ⟨d, hd, hx⟩ := g.2.get y
      rw [List.getElem?_map] at hd
      cases e : as[i]? with
      | none => rw [e] at hd; cases hd
      | some z =>
        rw [e] at hd
        cases hd
        exact ⟨z, B, rfl, Ex.refl _, S, hx⟩
  · refine ⟨fun _ => False, fun _ _ _ _ => False, ⟨fun _ _ _ h => h.elim, fun _ h => h.elim, fun _ _ _ _ _ h => h.elim⟩, fun F B L H S g => hl ?_, fun F B L i H x H' S g y hi => y.elim⟩
    have := g.2.length
    rw [List.length_map] at this
    exact this
theorem src_tup {as : List α} {enc : α → PyData} : Src (Itt K a) (fun B _ => SqT K B a xs ∧ DpAll K B xs (as.map enc)) as (fun B x y => Dp K B x (enc y)) := by
  by_cases hl : xs.length = as.length
  · refine ⟨_, _, hl ▸ walk_tup (xs := xs), fun F B L H S g => S.tqB g.1, fun F B L i H x H' S g y hi => ?_⟩
    obtain ⟨rfl, y⟩ := y
    obtain ⟨d, hd, hx⟩ := g.2.get y
    rw [List.getElem?_map] at hd
    cases e : as[i]? with
    | none => rw [e] at hd; cases hd
    | some z =>
      rw [e] at hd
      cases hd
      exact ⟨z, B, rfl, Ex.refl _, S, hx⟩
  · refine ⟨fun _ => False, fun _ _ _ _ => False, ⟨fun _ _ _ h => h.elim, fun _ h => h.elim, fun _ _ _ _ _ h => h.elim⟩, fun F B L H S g => hl ?_, fun F B L i H x H' S g y hi => y.elim⟩
    have := g.2.length
    rw [List.length_map] at this
    exact this
theorem src_range {lo : Int} {n : Nat} : Src (Itr lo n) (fun _ _ => True) (List.range n) (fun _ x i => x = .int (lo + (i : Nat))) := by
  refine ⟨fun _ => True, YFn fun i => .int (lo + i), (by rw [List.length_range]; exact walk_range), fun F B L H S g => True.intro, fun F B L i H x H' S g y hi => ?_⟩
  obtain ⟨rfl, rfl⟩ := y
  rw [List.length_range] at hi
  exact ⟨i, B, by simp [hi], Ex.refl _, S, rfl⟩
theorem src_str {z : Str} : Src (Its z) (fun _ _ => True) z.cps.toList (fun _ x c => x = .str ⟨#[c]⟩) := by
  refine ⟨_, _, (by rw [Array.length_toList]; exact walk_str), fun F B L H S g => True.intro, fun F B L i H x H' S g y hi => ?_⟩
  obtain ⟨rfl, c, hc, rfl⟩ := y
  exact ⟨c, B, by simpa using hc, Ex.refl _, S, rfl⟩
/-- a dict that is locked -/
def Frz (d : Addr) (o : Obj) (kvs : List (Key × V)) (B : Hp) (L : Led) : Prop := B d = some (.frz o (.dK kvs)) ∨ (d, HO.frz o (.dK kvs)) ∈ L
theorem Frz.at {F : Ent} {B H : Hp} {L : Led} {kvs : List (Key × V)} (S : Ok F B L H) (h : Frz d o kvs B L) : H d = some (.frz o (.dK kvs)) := by
  rcases h with h | h
  · exact S.stay h
  · exact S.mem h
theorem src_keys {kvs : List (Key × V)} : Src (Itk d o kvs) (Frz d o kvs) (kvs.map (·.1)) (fun _ x k => x = kV k) := by
  refine ⟨_, _, (by rw [List.length_map]; exact walk_keys), fun F B L H S g => g.at S, fun F B L i H x H' S g y hi => ?_⟩
  obtain ⟨rfl, k, v, e, rfl⟩ := y
  exact ⟨k, B, by rw [List.getElem?_map, e]; rfl, Ex.refl _, S, rfl⟩
theorem src_items {kvs : List (Key × V)} : Src (Iti d o kvs) (Frz d o kvs) kvs (fun B x kv => ∃ T, x = .ref T ∧ B T = some (.tup [kV kv.1, kv.2])) := by
  refine ⟨_, _, walk_items, fun F B L H S g => g.at S, fun F B L i H x H' S g y hi => ?_⟩
  obtain ⟨T, x', y', rfl, n, rfl, e1, e2⟩ := y
  dsimp only at e1 e2
  cases e : kvs[i]? with
  | none => rw [e] at e1; cases e1
  | some kv =>
    rw [e] at e1 e2
    cases e1
    cases e2
    exact ⟨kv, upd B T (.tup [kV kv.1, kv.2]), rfl, S.exB n, S.newB n, T, rfl, upd_same⟩
theorem getElem_zipIdx {as : List α} {i : Nat} {z : α} (e : as[i]? = some z) : as.zipIdx[i]? = some (z, i) := by
  simp [List.getElem?_zipIdx, e]
/-- enumerate(a list) -/
theorem src_enum {as : List α} {enc : α → PyData} : Src (Ite K a) (fun B L => (SqL K B a xs ∨ (a, HO.lst xs) ∈ L) ∧ DpAll K B xs (as.map enc)) as.zipIdx (fun B x y => ∃ T u, x = .ref T ∧ B T = some (.tup [.int (y.2 : Nat), u]) ∧ Dp K B u (enc y.1)) := by
  by_cases hl : xs.length = as.length
  · refine ⟨_, _, (by rw [List.length_zipIdx]; exact hl ▸ walk_enum (xs := xs)), fun F B L H S g => ?_, fun F B L i H x H' S g y hi => ?_⟩
    · rcases g.1 with h | h
      · exact S.sqB h
      · exact S.sqMem h
    · obtain ⟨T, x', y', rfl, n, rfl, e1, e2⟩ := y
      cases e1
      obtain ⟨d, hd, hx⟩ := g.2.get e2
      rw [List.getElem?_map] at hd
      cases e : as[i]? with
      | none => rw [e] at hd; cases hd
      | some z =>
        rw [e] at hd
        cases hd
        exact ⟨(z, i), upd B T (.tup [.int (i : Nat), y']), getElem_zipIdx e, S.exB n, S.newB n, T, y', rfl, upd_same, hx.up (S.exB n)⟩
  · refine ⟨fun _ => False, fun _ _ _ _ => False, ⟨fun _ _ _ h => h.elim, fun _ h => h.elim, fun _ _ _ _ _ h => h.elim⟩, fun F B L H S g => hl ?_, fun F B L i H x H' S g y hi => y.elim⟩
    have := g.2.length
    rw [List.length_map] at this
    exact this
end

/-! readings of walks -/
section
variable {P : Program} {w : World} {K : PySem.W.Frag} {σ : L2.St} {H : Hp} {tg : Expr} {te tx : TE} {g : TG} {tb : TS} {tt : TT} {vs : List Nat} {D : Ends} {Q : VK} {R : It → Hp → Prop} {wi : TI} {ta : TA}
theorem r_for (k : wi σ H (ForW g tb D σ)) : tFor wi g tb D σ H := k
theorem r_lc (k : wi σ H (LcW g tt te vs σ Q)) : tLc wi g tt te vs σ H Q := k
theorem r_dc {tk tv : TE} (k : wi σ H (DcW g tt tk tv vs σ Q)) : tDc wi g tt tk tv vs σ H Q := k
theorem r_val (k : te σ H fun v H1 => ItU P w K tg v H1 R) : iVal P w K tg te σ H R := k
def RngQ (R : It → Hp → Prop) : List V → Hp → Prop := fun vs H => ∃ j : Int, vs = [.int j] ∧ -(2 ^ 62) ≤ j ∧ j < 2 ^ 62 ∧ R (Itr 0 j.toNat) H
theorem r_rng1 (k : ta σ H (RngQ R)) : iRng1 ta σ H R := k
theorem rngQ {j : Int} (h1 : -(2 ^ 62) ≤ j) (h2 : j < 2 ^ 62) (k : R (Itr 0 j.toNat) H) : RngQ R [.int j] H := ⟨j, rfl, h1, h2, k⟩
def StrQ (R : It → Hp → Prop) : V → Hp → Prop := fun v H => ∃ x, v = .str x ∧ R (Its x) H
theorem r_str (k : te σ H (StrQ R)) : iStr te σ H R := k
theorem strQ {z : Str} (k : R (Its z) H) : StrQ R (.str z) H := ⟨z, rfl, k⟩
def ItmQ (R : It → Hp → Prop) : V → Hp → Prop := fun x H1 => ∃ d o kvs, x = .ref d ∧ H1 d = some (.frz o (.dK kvs)) ∧ R (Iti d o kvs) H1
def KeyQ (R : It → Hp → Prop) : V → Hp → Prop := fun x H1 => ∃ d o, x = .ref d ∧ ((∃ kvs, H1 d = some (.frz o (.dK kvs)) ∧ R (Itk d o kvs) H1) ∨ ∃ kvs, H1 d = some (.frz o (.dT kvs)) ∧ R (Itkt d o kvs) H1)
def VlsQ (R : It → Hp → Prop) : V → Hp → Prop := fun x H1 => ∃ d o kvs, x = .ref d ∧ H1 d = some (.frz o (.dK kvs)) ∧ R (Itd d o kvs) H1
theorem r_items (k : te σ H (ItmQ R)) : iItems te σ H R := k
theorem r_keys (k : te σ H (KeyQ R)) : iKeys te σ H R := k
theorem r_values (k : te σ H (VlsQ R)) : iVals te σ H R := k
theorem itmQ {d : Addr} {o : Obj} {kvs : List (Key × V)} (h : H d = some (.frz o (.dK kvs))) (k : R (Iti d o kvs) H) : ItmQ R (.ref d) H := ⟨d, o, kvs, rfl, h, k⟩
theorem keyQ {d : Addr} {o : Obj} {kvs : List (Key × V)} (h : H d = some (.frz o (.dK kvs))) (k : R (Itk d o kvs) H) : KeyQ R (.ref d) H := ⟨d, o, rfl, .inl ⟨kvs, h, k⟩⟩
def EnuQ (K : PySem.W.Frag) (R : It → Hp → Prop) : List V → Hp → Prop := fun vs H1 => ∃ a xs, vs = [.ref a] ∧ SqL K H1 a xs ∧ R (Ite K a) H1
/-! a dict locked for a walk -/
def LckQ (d : Addr) (od : Obj) (u : HO) (Q : VK) : VK := fun v H' => H' d = some (.frz od u) ∧ Q v (upd H' d u)
def LckD (d : Addr) (od : Obj) (u : HO) (D : Ends) : Ends := ⟨fun σ' H' => H' d = some (.frz od u) ∧ D.nx σ' (upd H' d u), fun v H' => H' d = some (.frz od u) ∧ D.rt v (upd H' d u), fun σ' H' => H' d = some (.frz od u) ∧ D.bk σ' (upd H' d u), fun σ' H' => H' d = some (.frz od u) ∧ D.ct σ' (upd H' d u)⟩
theorem r_lockS {t : TS} {d : Addr} {u : HO} (h : H d = some u) (mu : Mut (some u)) (k : ∀ od, t (LckD d od u D) σ (upd H d (.frz od u))) : tLock t D σ H := ⟨d, u, h, mu, k⟩
/-! targets -/
section
variable {F : Ent} {B : Hp} {L : Led} {gs : TGs} {n : Nat} {v : V} {QG : L2.St → Hp → Prop}
theorem r_gtupD {ds : List PyData} (S : Ok F B L H) (h : Dp K B v (.tuple ds)) (hn : ds.length = n) (k : ∀ vs, DpAll K B vs ds → gs vs σ H QG) : gTup K n gs v σ H QG := by
  obtain ⟨a, xs, rfl, hq, ha⟩ := Dp.tup_inv h
  exact ⟨a, xs, rfl, S.tqB hq, by rw [ha.length, hn], k xs ha⟩
theorem r_gtupSI {s : Str} {i : Int} (S : Ok F B L H) (h : Dp K B v (.tuple [.str s, .int i])) (k : gs [.str s, .int i] σ H QG) : gTup K 2 gs v σ H QG :=
  r_gtupD S h rfl fun vs ha => by
    obtain ⟨v1, r, rfl, h1, ha⟩ := ha.cons_inv
    obtain ⟨v2, r, rfl, h2, ha⟩ := ha.cons_inv
    obtain rfl := ha.nil_inv
    obtain rfl := h1.str_inv
    obtain rfl := h2.int_inv
    exact k
theorem r_gtupII {s i : Int} (S : Ok F B L H) (h : Dp K B v (.tuple [.int s, .int i])) (k : gs [.int s, .int i] σ H QG) : gTup K 2 gs v σ H QG :=
  r_gtupD S h rfl fun vs ha => by
    obtain ⟨v1, r, rfl, h1, ha⟩ := ha.cons_inv
    obtain ⟨v2, r, rfl, h2, ha⟩ := ha.cons_inv
    obtain rfl := ha.nil_inv
    obtain rfl := h1.int_inv
    obtain rfl := h2.int_inv
    exact k
theorem r_gtupB {a : Addr} {xs : List V} (S : Ok F B L H) (h : B a = some (.tup xs)) (hn : xs.length = n) (k : gs xs σ H QG) : gTup K n gs (.ref a) σ H QG := r_gtup (S.tqStay h) hn k
end
end
/-! more calls -/
section
variable {P : Program} {w : World} {K : PySem.W.Frag} {H B : Hp} {Q : VK} {F : Ent} {L : Led} {a : Addr}
theorem v_all {bs : List Bool} (h : SqL K H a (bs.map V.bl)) (k : Q (.bl (bs.all id)) H) : CallU P w K (.builtin "all") [.ref a] H Q := .ofK (r := rAll) (fun _ al => cr_all al.calm) ⟨a, bs, rfl, h, k⟩
theorem v_tupleL {xs : List V} (S : Ok F B L H) (h : SqL K H a xs) (k : ∀ p B' H', Ex B B' → B' p = some (.tup xs) → Ok F B' L H' → Q (.ref p) H') : CallU P w K (.type "tuple") [.ref a] H Q :=
  .ofK (r := fun K vs H Q => ∃ p ys, vs = [.ref p] ∧ ((SqL K H p ys ∧ ∀ l, H l = none → Q (.ref l) (upd H l (.tup ys))) ∨ (SqT K H p ys ∧ Q (.ref p) H))) (fun _ _ => call_tuple_of)
    ⟨a, xs, rfl, .inl ⟨h, fun p hp => k p _ _ (S.exB hp) upd_same (S.newB hp)⟩⟩
theorem v_tupleT {xs : List V} (h : SqT K H a xs) (k : Q (.ref a) H) : CallU P w K (.type "tuple") [.ref a] H Q :=
  .ofK (r := fun K vs H Q => ∃ p ys, vs = [.ref p] ∧ ((SqL K H p ys ∧ ∀ l, H l = none → Q (.ref l) (upd H l (.tup ys))) ∨ (SqT K H p ys ∧ Q (.ref p) H))) (fun _ _ => call_tuple_of)
    ⟨a, xs, rfl, .inr ⟨h, k⟩⟩
end
/-! fields -/
section
variable {K : PySem.W.Frag} {σ : L2.St} {H : Hp} {te tv : TE} {f : Str} {Q : VK} {D : Ends}
def FldQ (K : PySem.W.Frag) (f : Str) (Q : VK) : VK := fun x H1 => ∃ a C dx fs v, x = .ref a ∧ H1 a = some (.ins C dx fs) ∧ Cls K C ∧ NoAttr K C f ∧ fs.lookup f = some v ∧ Q v H1
theorem r_fld (k : te σ H (FldQ K f Q)) : tFld K te f σ H Q := k
theorem fldQ {a C dx : Addr} {fs : List (Str × V)} {v : V} (h : H a = some (.ins C dx fs)) (c : Cls K C) (n : NoAttr K C f) (l : fs.lookup f = some v) (k : Q v H) : FldQ K f Q (.ref a) H := ⟨a, C, dx, fs, v, rfl, h, c, n, l, k⟩
def SFdQ (K : PySem.W.Frag) (f : Str) (y : V) (D : Ends) (σ : L2.St) : VK := fun x H2 => ∃ a C dx fs, x = .ref a ∧ H2 a = some (.ins C dx fs) ∧ Cls K C ∧ NoAttr K C f ∧ fs.length < 1000 ∧ D.nx σ (upd H2 a (.ins C dx (putF f y fs)))
theorem r_sfld (k : tv σ H fun y H1 => te σ H1 (SFdQ K f y D σ)) : sFld K te tv f D σ H := k
theorem sfdQ {F : Ent} {B : Hp} {L : Led} {a C dx : Addr} {fs fs' : List (Str × V)} {y : V} (n : Nat) (S : Ok F B L H) (h : L[n]? = some (a, .ins C dx fs)) (c : Cls K C) (na : NoAttr K C f) (hl : fs.length < 1000) (hf : putF f y fs = fs') (k : ∀ H', Ok F B (L.set n (a, .ins C dx fs')) H' → D.nx σ H') : SFdQ K f y D σ (.ref a) H := by
  subst hf
  exact ⟨a, C, dx, fs, rfl, (S.own _ (List.mem_of_getElem? h)).1, c, na, hl, k _ (S.mutN n h)⟩
def AFdQ (K : PySem.W.Frag) (f : Str) (rd : V → V → Hp → VK → Prop) (tv : TE) (D : Ends) (σ : L2.St) : VK := fun x H1 => ∃ a C dx fs v, x = .ref a ∧ H1 a = some (.ins C dx fs) ∧ Cls K C ∧ NoAttr K C f ∧ fs.lookup f = some v ∧
  tv σ H1 fun y H2 => rd v y H2 fun z H3 => ∃ dx' fs', H3 a = some (.ins C dx' fs') ∧ fs'.length < 1000 ∧ D.nx σ (upd H3 a (.ins C dx' (putF f z fs')))
theorem r_afld {rd : V → V → Hp → VK → Prop} (k : te σ H (AFdQ K f rd tv D σ)) : sFldAug K te tv rd f D σ H := k
end
end WK
namespace WK
open PySem PySem.Spec PyProof.Rows L2
theorem r_yes {σ : L2.St} {H : Hp} {Q : Bool → Hp → Prop} (k : Q true H) : tYes σ H Q := k
end WK
namespace WK
open PySem PySem.Spec PyProof.Rows L2
section
variable {α : Type} {J : It} {GB : Hp → Led → Prop} {as : List α} {R : Hp → V → α → Prop} {F : Ent} {B H1 : Hp} {L : Led} {σ : L2.St} {K : PySem.W.Frag}
/-- a comprehension that makes data of data -/
theorem lcPure (K : PySem.W.Frag) (src : Src J GB as R) {g : TG} {tt : TT} {te : TE} {vs : List Nat} {Q : VK} (S : Ok F B L H1) (hGB : ∀ B1 D acc, Ex B B1 → GB B1 ((D, .lst acc) :: L)) (keep : α → Bool) (f : α → PyData) (hz : as.length ≤ 100000)
    (hs : ∀ a x B1 D acc H1 (C : VK) (Cs : Hp → Prop), a ∈ as → Ex B B1 → Ok F B1 ((D, .lst acc) :: L) H1 → R B1 x a →
      (∀ y H4 B2, keep a = true → Ex B1 B2 → Ok F B2 ((D, .lst acc) :: L) H4 → Dp K B2 y (f a) → C y H4) → (∀ H3 B2, keep a = false → Ex B1 B2 → Ok F B2 ((D, .lst acc) :: L) H3 → Cs H3) →
      g x (wipe σ vs) H1 fun σ2 H2 => wipe σ2 vs = wipe σ vs ∧ tt σ2 H2 fun b H3 => if b = true then te σ2 H3 C else Cs H3)
    (hd : ∀ D acc B1 H1, Ex B B1 → Ok F B1 ((D, .lst acc) :: L) H1 → DpAll K B1 acc ((as.filter keep).map f) → Q (.ref D) H1) : LcW g tt te vs σ Q J H1 := by
  refine lcD src S (fun i acc B1 L1 => L1 = L ∧ Ex B B1 ∧ DpAll K B1 acc (((as.take i).filter keep).map f)) ⟨rfl, Ex.refl _, .nil⟩ ?_ ?_ ?_
  · rintro i acc B1 L1 D _ ⟨rfl, e, _⟩
    exact hGB B1 D acc e
  · rintro i a x acc B0 B1 L1 D H1 ha ⟨rfl, e, hd⟩ e1 S1 r
    have hm : a ∈ as := List.mem_of_getElem? ha
    have hlen : acc.length ≤ i := by
      have h1 := hd.length
      have h2 := List.length_filter_le keep (as.take i)
      rw [List.length_map] at h1
      rw [List.length_take] at h2
      omega
    have hi : i < as.length := (List.getElem?_eq_some_iff.mp ha).1
    have et : as.take (i + 1) = as.take i ++ [a] := by rw [List.take_add_one, ha]; rfl
    refine hs a x B1 D acc H1 _ _ hm (e.trans e1) S1 r (fun y H4 B2 hk e2 S2 hy => ?_) (fun H3 B2 hk e2 S2 => ?_)
    · refine Acc.mk S2 (by rw [sizeLine_eq]; omega) ⟨rfl, (e.trans e1).trans e2, ?_⟩
      rw [et, List.filter_append, List.map_append]
      have : [a].filter keep = [a] := by simp [hk]
      rw [this]
      exact (hd.up (e1.trans e2)).append (.cons hy .nil)
    · refine Skp.mk S2 ⟨rfl, (e.trans e1).trans e2, ?_⟩
      rw [et, List.filter_append]
      have : [a].filter keep = [] := by simp [hk]
      rw [this, List.append_nil]
      exact hd.up (e1.trans e2)
  · rintro acc B1 L1 D H1 ⟨rfl, e, hd'⟩ S1
    rw [List.take_length] at hd'
    exact hd D acc B1 H1 e S1 hd'
theorem lcPureT {P : Program} {w : World} {tg : Expr} {enc : α → PyData} {v : V} {g : TG} {tt : TT} {te : TE} {vs : List Nat} {Q : VK} (S : Ok F B L H1) (h : Dp K B v (.tuple (as.map enc))) (keep : α → Bool) (f : α → PyData) (hz : as.length ≤ 100000)
    (hs : ∀ a x B1 D acc H1 (C : VK) (Cs : Hp → Prop), a ∈ as → Ex B B1 → Ok F B1 ((D, .lst acc) :: L) H1 → Dp K B1 x (enc a) →
      (∀ y H4 B2, keep a = true → Ex B1 B2 → Ok F B2 ((D, .lst acc) :: L) H4 → Dp K B2 y (f a) → C y H4) → (∀ H3 B2, keep a = false → Ex B1 B2 → Ok F B2 ((D, .lst acc) :: L) H3 → Cs H3) →
      g x (wipe σ vs) H1 fun σ2 H2 => wipe σ2 vs = wipe σ vs ∧ tt σ2 H2 fun b H3 => if b = true then te σ2 H3 C else Cs H3)
    (hd : ∀ D acc B1 H1, Ex B B1 → Ok F B1 ((D, .lst acc) :: L) H1 → DpAll K B1 acc ((as.filter keep).map f) → Q (.ref D) H1) : ItU P w K tg v H1 (LcW g tt te vs σ Q) := by
  obtain ⟨a, xs, rfl, hq, ha⟩ := Dp.tup_inv h
  exact ItU.tup (S.tqB hq) (lcPure K src_tup S (fun B1 D acc e => ⟨e.sqT hq, ha.up e⟩) keep f hz hs hd)
theorem lcPureL {P : Program} {w : World} {tg : Expr} {enc : α → PyData} {v : V} {g : TG} {tt : TT} {te : TE} {vs : List Nat} {Q : VK} (S : Ok F B L H1) (h : Dp K B v (.list (as.map enc))) (keep : α → Bool) (f : α → PyData) (hz : as.length ≤ 100000)
    (hs : ∀ a x B1 D acc H1 (C : VK) (Cs : Hp → Prop), a ∈ as → Ex B B1 → Ok F B1 ((D, .lst acc) :: L) H1 → Dp K B1 x (enc a) →
      (∀ y H4 B2, keep a = true → Ex B1 B2 → Ok F B2 ((D, .lst acc) :: L) H4 → Dp K B2 y (f a) → C y H4) → (∀ H3 B2, keep a = false → Ex B1 B2 → Ok F B2 ((D, .lst acc) :: L) H3 → Cs H3) →
      g x (wipe σ vs) H1 fun σ2 H2 => wipe σ2 vs = wipe σ vs ∧ tt σ2 H2 fun b H3 => if b = true then te σ2 H3 C else Cs H3)
    (hd : ∀ D acc B1 H1, Ex B B1 → Ok F B1 ((D, .lst acc) :: L) H1 → DpAll K B1 acc ((as.filter keep).map f) → Q (.ref D) H1) : ItU P w K tg v H1 (LcW g tt te vs σ Q) := by
  obtain ⟨a, xs, rfl, hq, ha⟩ := Dp.lst_inv h
  exact ItU.list (S.sqB hq) (lcPure K src_lst S (fun B1 D acc e => ⟨.inl (e.sqL hq), ha.up e⟩) keep f hz hs hd)
end
theorem filter_tt {α : Type} (as : List α) : as.filter (fun _ => true) = as := by simp
end WK
namespace WK
open PySem PySem.Spec PyProof.Rows L2
section
variable {P : Program} {w : World} {F : Ent} {B H : Hp} {L : Led} {K : PySem.W.Frag} {D : Addr} {acc : List V} {ds : List PyData} {Q : VK} {v : V}
/-- a list of one's own is data from now on -/
theorem Ok.toData (S : Ok F B ((D, .lst acc) :: L) H) (h : DpAll K B acc ds) : ∃ B', Ex B B' ∧ Ok F B' L H ∧ Dp K B' (.ref D) (.list ds) :=
  ⟨_, S.exF, S.freeze, .lst (SqL.of upd_same) (h.up S.exF)⟩
theorem Dp.ofTup {a : Addr} (h : B a = some (.tup acc)) (hd : DpAll K B acc ds) : Dp K B (.ref a) (.tuple ds) := .tup (SqT.of h) hd
theorem v_lenDL (S : Ok F B L H) (h : Dp K B v (.list ds)) (k : Q (.int ds.length) H) : CallU P w K (.builtin "len") [v] H Q := by
  obtain ⟨a, xs, rfl, hq, ha⟩ := Dp.lst_inv h
  refine v_lenL (S.sqB hq) ?_
  rw [ha.length]
  exact k
theorem v_lenDT (S : Ok F B L H) (h : Dp K B v (.tuple ds)) (k : Q (.int ds.length) H) : CallU P w K (.builtin "len") [v] H Q := by
  obtain ⟨a, xs, rfl, hq, ha⟩ := Dp.tup_inv h
  refine v_lenT (S.tqB hq) ?_
  rw [ha.length]
  exact k
theorem v_allD {bs : List Bool} (S : Ok F B L H) (h : Dp K B v (.list (bs.map PyData.bool))) (k : Q (.bl (bs.all id)) H) : CallU P w K (.builtin "all") [v] H Q := by
  obtain ⟨a, xs, rfl, hq, ha⟩ := Dp.lst_inv h
  rw [ha.bools] at hq
  exact v_all (S.sqB hq) k
/-- tuple(a list of data) -/
theorem v_tupD (S : Ok F B L H) (h : Dp K B v (.list ds)) (k : ∀ p B' H', Ex B B' → Ok F B' L H' → Dp K B' (.ref p) (.tuple ds) → Q (.ref p) H') : CallU P w K (.type "tuple") [v] H Q := by
  obtain ⟨a, xs, rfl, hq, ha⟩ := Dp.lst_inv h
  exact v_tupleL S (S.sqB hq) fun p B' H' e hp S' => k p B' H' e S' (Dp.ofTup hp (ha.up e))
theorem v_tupDT (S : Ok F B L H) (h : Dp K B v (.tuple ds)) (k : Q v H) : CallU P w K (.type "tuple") [v] H Q := by
  obtain ⟨a, xs, rfl, hq, ha⟩ := Dp.tup_inv h
  exact v_tupleT (S.tqB hq) k
/-- a display of data -/
theorem new_tupD {vs : List V} (S : Ok F B L H) (h : DpAll K B vs ds) (hz : vs.length ≤ 1000) (k : ∀ p B' H', Ex B B' → Ok F B' L H' → Dp K B' (.ref p) (.tuple ds) → Q (.ref p) H') : NewT vs H Q :=
  new_tup S (by rw [sizeLine_eq]; omega) fun p B' H' e hp S' => k p B' H' e S' (Dp.ofTup hp (h.up e))
end
end WK
namespace WK
open PySem PySem.Spec PyProof.Rows L2
section
variable {F : Ent} {B H B' H' : Hp} {L L' : Led} {a : Addr} {u : HO} {od : Obj}
/-- a thing of the caller's that is locked for a while: one's own meanwhile -/
theorem Ok.lock (S : Ok F B L H) (h : H a = some u) (hb : B a = none) (hl : a ∉ L.map (·.1)) : Ok ⟨B, upd H a (.frz od u), a :: L.map (·.1)⟩ B ((a, .frz od u) :: L) (upd H a (.frz od u)) := by
  refine Ok.start (L := (a, .frz od u) :: L) (fun b o e => ?_) (List.nodup_cons.mpr ⟨hl, S.nd⟩) fun q hq => ?_
  · rw [upd_ne (ne_of_none e hb)]; exact S.ex b o e
  · rcases List.mem_cons.mp hq with rfl | hq
    · exact ⟨upd_same, hb⟩
    · obtain ⟨e1, e2⟩ := S.own q hq
      exact ⟨by rw [upd_ne fun z => hl (by rw [← z]; exact List.mem_map.mpr ⟨q, hq, rfl⟩)]; exact e1, e2⟩
theorem Ok.unlock (S : Ok F B L H) (h : H a = some u) (hb : B a = none) (hl : a ∉ L.map (·.1)) (T : Ok ⟨B, upd H a (.frz od u), a :: L.map (·.1)⟩ B' ((a, .frz od u) :: L') H') : H' a = some (.frz od u) ∧ Ok F B' L' (upd H' a u) := by
  obtain ⟨e0, nb⟩ := T.own _ (List.mem_cons_self ..)
  have ndT := List.nodup_cons.mp T.nd
  have nl : ∀ q ∈ L', q.1 ≠ a := fun q hq z => ndT.1 (List.mem_map.mpr ⟨q, hq, z⟩)
  have old : ∀ b o, H b = some o → b ∉ L.map (·.1) → upd H' a u b = some o := fun b o e hn => by
    by_cases z : b = a
    · subst z
      rw [upd_same, ← e, h]
    · rw [upd_ne z]
      refine T.keep b o (by show upd H a _ b = _; rw [upd_ne z]; exact e) fun y => ?_
      rcases List.mem_cons.mp y with y | y
      · exact z y
      · exact hn y
  have oldF : ∀ b, (upd H a (.frz od u)) b = none → H b = none := fun b e => by
    by_cases z : b = a
    · rw [z, upd_same] at e; cases e
    · rw [upd_ne z] at e; exact e
  have oldL : ∀ b, b ∈ L.map (·.1) → b ∈ F.A ∨ F.H b = none := fun b hb' => by
    obtain ⟨q, hq, rfl⟩ := List.mem_map.mp hb'
    exact S.fL q hq
  have noneF : ∀ b, H b = none → F.H b = none := fun b e => (S.fresh e).1
  refine ⟨e0, fun b o e => ?_, ndT.2, fun q hq => ?_, S.ex0.trans T.ex0, fun b o e hn => ?_, fun b hb' => ?_, fun b o e => ?_, fun q hq => ?_⟩
  · rw [upd_ne (ne_of_none e nb)]; exact T.ex b o e
  · obtain ⟨e1, e2⟩ := T.own q (List.mem_cons_of_mem _ hq)
    exact ⟨by rw [upd_ne (nl q hq)]; exact e1, e2⟩
  · refine old b o (S.keep b o e hn) fun z => ?_
    rcases oldL b z with y | y
    · exact hn y
    · rw [y] at e; cases e
  · obtain ⟨o, e⟩ := S.kA b hb'
    by_cases z : b ∈ L.map (·.1)
    · obtain ⟨o', e'⟩ := T.kA b (List.mem_cons_of_mem _ z)
      by_cases y : b = a
      · exact ⟨u, by rw [y]; exact upd_same⟩
      · exact ⟨o', by rw [upd_ne y]; exact e'⟩
    · exact ⟨o, old b o e z⟩
  · rcases T.fB b o e with ⟨w, z⟩ | z | z
    · exact S.fB b w z
    · exact .inr (.inl (noneF b (oldF b z)))
    · rcases List.mem_cons.mp z with z | z
      · rw [z] at e; exact absurd (e.symm.trans nb) (by simp)
      · rcases oldL b z with y | y
        · exact .inr (.inr y)
        · exact .inr (.inl y)
  · rcases T.fL q (List.mem_cons_of_mem _ hq) with z | z
    · rcases List.mem_cons.mp z with z | z
      · exact absurd z (nl q hq)
      · exact oldL _ z
    · exact .inr (noneF _ (oldF _ z))
/-- a dict of one's own is let go: it stays, locked, from now on -/
theorem Ok.freezeD (S : Ok F B ((a, u) :: L) H) : ∃ B', Ex B B' ∧ B' a = some (.frz od u) ∧ Ok F B' L (upd H a (.frz od u)) := by
  have S1 : Ok F B ((a, .frz od u) :: L) (upd H a (.frz od u)) := S.mut
  exact ⟨_, S1.exF, upd_same, S1.freeze⟩
end
section
variable {X : Cx}
/-- a thing locked for good: for the expression, or the statements, that follow -/
def tFrzE (t : TE) : TE := fun σ H Q => t σ H Q ∨ ∃ d u, H d = some u ∧ Mut (some u) ∧ ∀ od, t σ (upd H d (.frz od u)) Q
theorem pe_frz {e : Expr} {t : TE} (h : PE X e t) : PE X e (tFrzE t) := by
  refine ⟨fun pins s σ H Q I hw => ?_⟩
  rcases hw with hw | ⟨d, u, hd, mu, hw⟩
  · exact h.run pins s σ H Q I hw
  · obtain ⟨od, I1⟩ := I.lock hd mu
    exact h.run pins s σ _ Q I1 (hw od)
theorem frzE {t : TE} {σ : L2.St} {H : Hp} {Q : VK} {d : Addr} {u : HO} (h : H d = some u) (mu : Mut (some u)) (k : ∀ od, t σ (upd H d (.frz od u)) Q) : tFrzE t σ H Q := .inr ⟨d, u, h, mu, k⟩
def tFrzS (t : TS) : TS := fun D σ H => t D σ H ∨ ∃ d u, H d = some u ∧ Mut (some u) ∧ ∀ od, t D σ (upd H d (.frz od u))
theorem ps_frz {st : Stmt} {t : TS} (h : PS X st t) : PS X st (tFrzS t) := by
  refine ⟨fun pins s σ H D I hw => ?_⟩
  rcases hw with hw | ⟨d, u, hd, mu, hw⟩
  · exact h.run pins s σ H D I hw
  · obtain ⟨od, I1⟩ := I.lock hd mu
    exact h.run pins s σ _ D I1 (hw od)
theorem frzS {t : TS} {σ : L2.St} {H : Hp} {D : Ends} {d : Addr} {u : HO} (h : H d = some u) (mu : Mut (some u)) (k : ∀ od, t D σ (upd H d (.frz od u))) : tFrzS t D σ H := .inr ⟨d, u, h, mu, k⟩
end
end WK

namespace WK
open PySem PySem.Spec PyProof.Rows L2
theorem valV_none {κ : Type} [DecidableEq κ] {kvs : List (κ × V)} {k : κ} (h : k ∉ kvs.map (·.1)) : valV kvs k = none := by
  cases e : valV kvs k with
  | none => rfl
  | some w => exact absurd (valV_in e) h
section
variable {α : Type} {J : It} {GB : Hp → Led → Prop} {as : List α} {R : Hp → V → α → Prop} {F : Ent} {B H H1 : Hp} {L : Led} {σ : L2.St} {K : PySem.W.Frag}
/-- a dict whose keys are all new and whose values are fixed -/
theorem dcPure (src : Src J GB as R) {g : TG} {tt : TT} {tk tv : TE} {vs : List Nat} {Q : VK} (S : Ok F B L H1) (hGB : ∀ B1 D acc, Ex B B1 → GB B1 ((D, .dK acc) :: L)) (keep : α → Bool) (f : α → Key × V) (nd : (as.map fun a => (f a).1).Nodup) (hz : as.length ≤ 100000)
    (hs : ∀ a x B1 D acc H1 (C : V → VK) (Cs : Hp → Prop), a ∈ as → Ex B B1 → Ok F B1 ((D, .dK acc) :: L) H1 → R B1 x a →
      (∀ z H4 B2, keep a = true → z = (f a).2 → Ex B1 B2 → Ok F B2 ((D, .dK acc) :: L) H4 → C (kV (f a).1) z H4) → (∀ H3 B2, keep a = false → Ex B1 B2 → Ok F B2 ((D, .dK acc) :: L) H3 → Cs H3) →
      g x (wipe σ vs) H1 fun σ2 H2 => wipe σ2 vs = wipe σ vs ∧ tt σ2 H2 fun b H3 => if b = true then tk σ2 H3 fun y H4 => tv σ2 H4 (C y) else Cs H3)
    (hd : ∀ D B1 H1, Ex B B1 → Ok F B1 ((D, .dK ((as.filter keep).map f)) :: L) H1 → Q (.ref D) H1) : DcW g tt tk tv vs σ Q J H1 := by
  refine dcD src S (fun i acc B1 L1 => L1 = L ∧ Ex B B1 ∧ acc = ((as.take i).filter keep).map f) ⟨rfl, Ex.refl _, rfl⟩ ?_ ?_ ?_
  · rintro i acc B1 L1 D _ ⟨rfl, e, _⟩
    exact hGB B1 D acc e
  · rintro i a x acc B0 B1 L1 D H1 ha ⟨rfl, e, rfl⟩ e1 S1 r
    have hm : a ∈ as := List.mem_of_getElem? ha
    have hi : i < as.length := (List.getElem?_eq_some_iff.mp ha).1
    have et : as.take (i + 1) = as.take i ++ [a] := by rw [List.take_add_one, ha]; rfl
    have hlen : (((as.take i).filter keep).map f).length ≤ i := by
      have h2 := List.length_filter_le keep (as.take i)
      rw [List.length_map]
      rw [List.length_take] at h2
      omega
    refine hs a x B1 D _ H1 _ _ hm (e.trans e1) S1 r (fun z H4 B2 hk hz' e2 S2 => ?_) (fun H3 B2 hk e2 S2 => ?_)
    · refine AccD.mk (k := (f a).1) S2 rfl (by rw [sizeLine_eq]; omega) ⟨rfl, (e.trans e1).trans e2, ?_⟩
      subst hz'
      rw [et, List.filter_append, List.map_append]
      have : [a].filter keep = [a] := by simp [hk]
      rw [this]
      refine putK_new _ ?_
      cases ev : valV (((as.take i).filter keep).map f) (f a).1 with
      | none => rfl
      | some w =>
        exfalso
        have h1 := valV_in ev
        rw [List.map_map] at h1
        obtain ⟨b, hb, eb⟩ := List.mem_map.mp h1
        have hb' := (List.mem_filter.mp hb).1
        obtain ⟨j, hj⟩ := List.getElem?_of_mem hb'
        have hji : j < i := by
          have := (List.getElem?_eq_some_iff.mp hj).1
          rw [List.length_take] at this
          omega
        rw [List.getElem?_take_of_lt hji] at hj
        have q1 : (as.map fun a => (f a).1)[j]? = some (f b).1 := by rw [List.getElem?_map, hj]; rfl
        have q2 : (as.map fun a => (f a).1)[i]? = some (f a).1 := by rw [List.getElem?_map, ha]; rfl
        have q3 := (List.getElem?_inj (i := j) (j := i) (by rw [List.length_map]; omega) nd).mp (by rw [q1, q2]; exact congrArg some eb)
        omega
    · refine SkpD.mk S2 ⟨rfl, (e.trans e1).trans e2, ?_⟩
      rw [et, List.filter_append]
      have : [a].filter keep = [] := by simp [hk]
      rw [this, List.append_nil]
  · rintro acc B1 L1 D H1 ⟨rfl, e, rfl⟩ S1
    rw [List.take_length] at S1
    exact hd D B1 H1 e S1
end
end WK
namespace WK
open PySem PySem.Spec PyProof.Rows L2
section
variable {X : Cx}
/-- name = {..} on one line, the name a local -/
theorem ps_setDc {i : Nat} {y : Str} {py : Pos} {kx vx tg iter : Expr} {ifs : List Expr} {scope : Scope} {own : List (Str × Nat)} {pos spos : Pos} {wi : TI} {g : TG} {tt : TT} {tk tv : TE} (hc : X.calm = true) (hN : X.N.Nodup) (hy : X.N[i]? = some y) (hyl : X.env.scope.names.lookup y = some .local)
    (hsw : swapsWith (.DictComp kx vx [⟨tg, iter, ifs, 0⟩] scope pos) (some (.Name y py)) spos.line X.env = pure true) (hi : PI X tg iter wi) (ok : BlkOk X.N X.env.scope scope own)
    (hg : ∀ (s : Shared) (H : Hp) (C : Addr) (cl : List (Str × Addr)) (fp : List Addr), PG (X.blk s H scope (compEnvC scope cl C X.env) fp) tg g) (ht : ∀ (s : Shared) (H : Hp) (C : Addr) (cl : List (Str × Addr)) (fp : List Addr), PTs (X.blk s H scope (compEnvC scope cl C X.env) fp) ifs tt)
    (hk : ∀ (s : Shared) (H : Hp) (C : Addr) (cl : List (Str × Addr)) (fp : List Addr), PE (X.blk s H scope (compEnvC scope cl C X.env) fp) kx tk)
    (he : ∀ (s : Shared) (H : Hp) (C : Addr) (cl : List (Str × Addr)) (fp : List Addr), PE (X.blk s H scope (compEnvC scope cl C X.env) fp) vx tv) (hs : ∀ x, foldedSetIterable iter X.env x = pure x := by intro _; rfl) :
    PS X (.Assign [.Name y py] (.DictComp kx vx [⟨tg, iter, ifs, 0⟩] scope pos) spos) (tAsg (tDc wi g tt tk tv (own.map (·.2))) (gName i)) := by
  refine ⟨fun pins s σ H D I h => ?_⟩
  rw [exec_Assign_Name_used _ _ _ _ hsw]
  refine wpAny_bind (wpAny_standAt (wpAny_bind ?_))
  show wpAny _ X.A (do let _ ← comprehension (.DictComp kx vx [⟨tg, iter, ifs, 0⟩] scope pos) scope X.env (firstIterPos [⟨tg, iter, ifs, 0⟩] pos) newDict false (eval iter X.env) (some (assign (.Name y py) X.env))) _ _ s
  have h : tDc wi g tt tk tv (own.map (·.2)) σ H (fun x H1 => gName i x σ H1 D.nx) := h
  refine wpAny_bind (thn (dc_core (Qf := fun _ s' => SP X pins D .next s') hc hN I hi ok hg ht hk he hs h fun L C s' m H' I' q hn f => ?_) fun _ s' hq => wpAny_pure (wpAny_pure hq))
  show wpAny _ _ (assign (.Name y py) X.env (.ref L)) _ _ _
  refine wpAny_assign_Name (store_ok2 (v := V.ref L) I' hN hy (.inl hyl) rfl (fun s2 I2 ⟨a, sb, ha⟩ => ?_) (.inr hyl))
  obtain ⟨f0, f1, f2, f3, f4, f5⟩ := f
  have haC : C ≠ a := by
    rcases ha with z | z
    · rw [z]; exact f1
    · exact fun e => f4 y a z e.symm
  refine ⟨m, hn.sameBut sb haC, fun h3 sb3 => ?_⟩
  exact ⟨_, H', I2.turned (t' := s2.toks) (fun b o hb e => (sb3.2 b hb).trans e) f0 f1 f3 f4 f5, q⟩
theorem sw_trueD {kx vx : Expr} {gs : List Comprehension} {scope : Scope} {pos py : Pos} {y : Str} {l : Nat} {env : Env} (hk : env.scope.kind = .function) (hy : env.scope.names.lookup y = some .local) (hl : (py.line == pos.line) = true)
    (ha : (scope.names.any fun (n, k) => n == y && (k == .local || k == .cell)) = false) : swapsWith (.DictComp kx vx gs scope pos) (some (.Name y py)) l env = pure true := by
  have ky : env.kindOf y = some .local := hy
  have hb : env.blockKind = .function := by unfold Env.blockKind; rw [hk]; rfl
  unfold swapsWith
  simp only [hb, ky, ha, Expr.pos, hl]
  rfl
end
end WK
namespace WK
open PySem PySem.Spec PyProof.Rows L2
section
variable {α : Type} {F : Ent} {B H : Hp} {L : Led} {σ : L2.St} {K : PySem.W.Frag} {P : Program} {w : World} {tg : Expr}
/-- what a turn of a loop is to reach, what stays only growing -/
structure NxE (F : Ent) (B : Hp) (I : L2.St → Hp → Led → Prop) (σ : L2.St) (H : Hp) : Prop where
  it : ∃ B1 L1, Ok F B1 L1 H ∧ Ex B B1 ∧ I σ B1 L1
theorem NxE.mk' {I : L2.St → Hp → Led → Prop} {B1 : Hp} (S : Ok F B1 L H) (e : Ex B B1) (h : I σ B1 L) : NxE F B I σ H := ⟨B1, L, S, e, h⟩
/-- any source that what stays carries -/
theorem forDS {J : It} {GB : Hp → Led → Prop} {as : List α} {R : Hp → V → α → Prop} (src : Src J GB as R) {g : TG} {tb : TS} {D : Ends} (S : Ok F B L H) (I : Nat → L2.St → Hp → Led → Prop) (hGB : ∀ i σ B1 L1, Ex B B1 → I i σ B1 L1 → GB B1 L1) (h0 : I 0 σ B L)
    (hs : ∀ i a x σ B0 B1 L H, as[i]? = some a → I i σ B0 L → Ex B B0 → Ex B0 B1 → Ok F B1 L H → R B1 x a → g x σ H fun σ2 H2 => tb { D with nx := NxE F B (I (i + 1)), ct := NxE F B (I (i + 1)), bk := D.nx } σ2 H2)
    (hd : ∀ σ B1 L H, I as.length σ B1 L → Ex B B1 → Ok F B1 L H → D.nx σ H) : ForW g tb D σ J H := by
  obtain ⟨G, Y, w, h1, h2⟩ := src.ex
  refine for_it w (fun i => NxE F B (I i)) (.mk' S (Ex.refl _) h0) (fun i σ H hi ⟨B1, L, S, e, q⟩ => h1 F B1 L H S (hGB i σ B1 L e q)) (fun i x σ H H' hi ⟨B1, L, S, e, q⟩ y => ?_) (fun σ H ⟨B1, L, S, e, q⟩ => hd σ B1 L H q e S)
  obtain ⟨a, B', ea, ex, S', r⟩ := h2 F B1 L i H x H' S (hGB i σ B1 L e q) y hi
  exact hs i a x σ B1 B' L H' ea q e ex S' r
/-- over a tuple of data -/
theorem forDT {as : List α} {enc : α → PyData} {v : V} {g : TG} {tb : TS} {D : Ends} (S : Ok F B L H) (h : Dp K B v (.tuple (as.map enc))) (I : Nat → L2.St → Hp → Led → Prop) (h0 : I 0 σ B L)
    (hs : ∀ i a x σ B0 B1 L H, as[i]? = some a → I i σ B0 L → Ex B B0 → Ex B0 B1 → Ok F B1 L H → Dp K B1 x (enc a) → g x σ H fun σ2 H2 => tb { D with nx := NxE F B (I (i + 1)), ct := NxE F B (I (i + 1)), bk := D.nx } σ2 H2)
    (hd : ∀ σ B1 L H, I as.length σ B1 L → Ex B B1 → Ok F B1 L H → D.nx σ H) : ItU P w K tg v H (ForW g tb D σ) := by
  obtain ⟨a, xs, rfl, hq, ha⟩ := Dp.tup_inv h
  exact ItU.tup (S.tqB hq) (forDS (src_tup (xs := xs) (as := as) (enc := enc)) S I (fun _ _ _ _ e _ => ⟨e.sqT hq, ha.up e⟩) h0 hs hd)
theorem forDL {as : List α} {enc : α → PyData} {v : V} {g : TG} {tb : TS} {D : Ends} (S : Ok F B L H) (h : Dp K B v (.list (as.map enc))) (I : Nat → L2.St → Hp → Led → Prop) (h0 : I 0 σ B L)
    (hs : ∀ i a x σ B0 B1 L H, as[i]? = some a → I i σ B0 L → Ex B B0 → Ex B0 B1 → Ok F B1 L H → Dp K B1 x (enc a) → g x σ H fun σ2 H2 => tb { D with nx := NxE F B (I (i + 1)), ct := NxE F B (I (i + 1)), bk := D.nx } σ2 H2)
    (hd : ∀ σ B1 L H, I as.length σ B1 L → Ex B B1 → Ok F B1 L H → D.nx σ H) : ItU P w K tg v H (ForW g tb D σ) := by
  obtain ⟨a, xs, rfl, hq, ha⟩ := Dp.lst_inv h
  exact ItU.list (S.sqB hq) (forDS (src_lst (xs := xs) (as := as) (enc := enc)) S I (fun _ _ _ _ e _ => ⟨.inl (e.sqL hq), ha.up e⟩) h0 hs hd)
end
end WK
namespace WK
open PySem PySem.Spec PyProof.Rows L2
/-- what was added to what stays is dropped again -/
theorem Ok.rebase {B B0 B' H H' : Hp} {A : List Addr} {L : Led} (e : Ex B B0) (T : Ok ⟨B0, H, A⟩ B' L H') : Ok ⟨B, H, A⟩ B L H' := by
  have e1 : Ex B B' := e.trans T.ex0
  refine ⟨e1.trans T.ex, T.nd, fun q hq => ⟨(T.own q hq).1, ?_⟩, Ex.refl _, T.keep, T.kA, fun b o h => .inl ⟨o, h⟩, T.fL⟩
  cases h : B q.1 with
  | none => rfl
  | some o =>
    have h2 := (T.own q hq).2
    rw [e1 _ _ h] at h2
    cases h2
end WK
namespace WK
open PySem PySem.Spec PyProof.Rows L2
/-- over a list or a tuple of data -/
theorem forDA {α : Type} {F : Ent} {B H : Hp} {L : Led} {σ : L2.St} {K : PySem.W.Frag} {P : Program} {w : World} {tg : Expr} {as : List α} {enc : α → PyData} {v : V} {d : PyData} {g : TG} {tb : TS} {D : Ends} (S : Ok F B L H) (h : Dp K B v d) (hd' : d = .list (as.map enc) ∨ d = .tuple (as.map enc)) (I : Nat → L2.St → Hp → Led → Prop) (h0 : I 0 σ B L)
    (hs : ∀ i a x σ B0 B1 L H, as[i]? = some a → I i σ B0 L → Ex B B0 → Ex B0 B1 → Ok F B1 L H → Dp K B1 x (enc a) → g x σ H fun σ2 H2 => tb { D with nx := NxE F B (I (i + 1)), ct := NxE F B (I (i + 1)), bk := D.nx } σ2 H2)
    (hd : ∀ σ B1 L H, I as.length σ B1 L → Ex B B1 → Ok F B1 L H → D.nx σ H) : ItU P w K tg v H (ForW g tb D σ) := by
  rcases hd' with rfl | rfl
  · exact forDL S h I h0 hs hd
  · exact forDT S h I h0 hs hd
end WK

namespace WK
open PySem PySem.Spec PyProof.Rows L2 PyProof.V PySem.Calls
section
variable {X : Cx} {o : Expr} {p pos apos mpos : Pos} {td : TE}
/-- sum(o.values()), a dict with int values -/
def SumQ (Q : VK) : VK := fun x H1 => ∃ (a : Addr) (kvs : List (Key × V)) (is : List Int), x = V.ref a ∧ Rd H1 a (.dK kvs) ∧ kvs.map (·.2) = is.map V.int ∧ Q (.int is.sum) H1
def tSumVals (td : TE) : TE := fun σ H Q => td σ H (SumQ Q)
theorem r_sumVals {σ : L2.St} {H : Hp} {Q : VK} (k : td σ H (SumQ Q)) : tSumVals td σ H Q := k
theorem sumQ {H : Hp} {Q : VK} {a : Addr} {kvs : List (Key × V)} {is : List Int} (h : Rd H a (.dK kvs)) (e : kvs.map (·.2) = is.map V.int) (k : Q (.int is.sum) H) : SumQ Q (.ref a) H := ⟨a, kvs, is, rfl, h, e, k⟩
theorem pe_sumVals (hc : X.calm = true) (hg : Gl X "sum") (hm : X.mg "sum" = none) (hd : PE X o td) (hbase : attributeBase o "values" X.env (eval o X.env) = eval o X.env := by rfl) (hline : (apos.endLine == mpos.line) = true := by rfl)
    (hse : starEach [Expr.Call (.Attribute o "values" apos) [] [] mpos] X.env = [(false, eval (Expr.Call (.Attribute o "values" apos) [] [] mpos) X.env)] := by rfl) :
    PE X (.Call (.Name "sum" p) [.Call (.Attribute o "values" apos) [] [] mpos] [] pos) (tSumVals td) := by
  refine ⟨fun pins s σ H Q I h => ?_⟩
  refine wpAny_Call_Name_kw (ld_blt I hg hm (u := .builtin "sum") (by first | rfl | decide +kernel) ?_ (by first | decide +kernel | decide) (by first | decide +kernel | decide))
  rw [hse]
  refine PySem.callWith_builtin1 (wpAny_Call_method0_late hbase hline (thn (hd.run pins s σ H _ I h) fun v s1 ⟨x, H1, I1, r1, a, kvs, is, ex, ha, hv, q⟩ => ?_))
  subst ex
  obtain rfl : v = Value.ref a := r1
  obtain ⟨_, hsys, vs, rel, dof⟩ := dk_rd I1.hok ha
  obtain ⟨ep, dat⟩ := dof.dictAt
  have dat' := dat
  obtain ⟨ob, es, ho, ex, hdat, hko, hpr, hnd⟩ := dat'
  refine ⟨"dict", "dict.values", F.plainAttrs_dict, F.slot_dict_values, F.type_dict_values, ⟨ob, ho, ex.1⟩, fun b e => ?_, Calls.callWith_builtin rfl (PySem.evalArgs_none ?_)⟩
  · cases e
    exact ⟨ob, ho, ex.2.1⟩
  refine call_meetsIn F.slot_dict_values ⟨ob, ho, ex.1⟩ F.entry_dict_values (F.args_dict_values_1 _) (meets_dict_values (mixKind X.prog X.w) a hsys) ⟨⟨vs, dof⟩, ?_⟩
  have k1 : ∀ b u, s1.heap.get? b = some u → (s1.heap.push { cls := .type "dict_values", data := .fields #[.ref a] }).get? b = some u := fun b u e => Heap.get?_push_of_some _ e
  have dat1 : (s1.heap.push { cls := .type "dict_values", data := .fields #[.ref a] }).DictAt (mixKind X.prog X.w) a vs ep := dat.keep k1
  have hlv : vs.length = is.length := by
    have e1 := congrArg List.length hv
    rw [List.length_map, List.length_map] at e1
    rw [← e1]
    exact (KV.length rel).symm
  have hval : ∀ (i : Nat) (v : Value), (∃ k, vs[i]? = some (k, v)) → ∃ t, v = Value.int (is.getD i 0) t := fun i v ⟨k, hk⟩ => by
    obtain ⟨x, h1, h2⟩ := KV.at' rel hk
    have e1 : (kvs.map (·.2))[i]? = some x := by rw [List.getElem?_map, h1] <;> rfl
    rw [hv, List.getElem?_map] at e1
    obtain ⟨j, hj, e2⟩ := Option.map_eq_some_iff.mp e1
    subst e2
    obtain ⟨t, e3⟩ := h2
    refine ⟨t, ?_⟩
    rw [e3, List.getD_eq_getElem?_getD, hj] <;> rfl
  refine call_sum_walkAnyS (wpAny_pyIter_values (v := s1.heap.objs.size) (d := a) ⟨_, Heap.get?_push_size _ rfl, rfl, rfl⟩ dat1 ?_)
  have hlt : a < s1.heap.objs.size := Heap.lt_size ho
  have hsz : (s1.heap.push { cls := .type "dict_values", data := .fields #[.ref a] }).objs.size = s1.heap.objs.size + 1 := Heap.size_push _ _
  refine ⟨_, _, _, _, _, _, _, fun i => is.getD i 0, rfl, (Walks.dictValues (knd := mixKind X.prog X.w) (A := X.A.in1) (I.ok.hd hc) (s1.heap.push { cls := .type "dict_values", data := .fields #[.ref a] }).objs.size a (by rw [hsz]; exact Nat.ne_of_lt (Nat.lt_succ_of_lt hlt)) vs ep).toS,
    ⟨⟨_, Heap.get?_push_size _ rfl, rfl, rfl⟩, dat1.keep fun b u e => Heap.get?_push_of_some _ e⟩, fun b hb => ?_, hval, fun s' t' hm => ?_⟩
  · show b < ((s1.heap.push _).push _).objs.size
    rw [Heap.size_push, Heap.size_push]
    rw [hsz] at hb
    rcases List.mem_cons.mp hb with e | hb
    · rw [e]
      exact Nat.lt_succ_self _
    · have e : b = a := List.mem_singleton.mp hb
      rw [e]
      exact Nat.lt_succ_of_lt (Nat.lt_succ_of_lt hlt)
  · have hk : ∀ b u, s1.heap.get? b = some u → s'.heap.get? b = some u := fun b u e =>
      hm.heap b u (fun hmem => by
        have e1 : b = (s1.heap.push { cls := .type "dict_values", data := .fields #[.ref a] }).objs.size := List.mem_singleton.mp hmem
        have e2 := Heap.lt_size e
        rw [hsz] at e1
        rw [e1] at e2
        exact absurd e2 (Nat.not_lt.mpr (Nat.le_succ _))) (Heap.get?_push_of_some _ (k1 b u e))
    have hsum : preSum (fun i => is.getD i 0) vs.length = is.sum := by
      rw [preSum_getD, hlv, List.take_length]
    rw [Moved.eq_with hm, hsum]
    exact ⟨.int _, H1, I1.kept (t' := s'.toks) hk, ⟨t', rfl⟩, q⟩
end
end WK
namespace WK
open PySem PySem.Spec PyProof.Rows L2
section
variable {F : Ent} {B H : Hp} {L : Led} {σ : L2.St} {Q : VK} {C : Addr} {m : Str} {sp : Sp} {ta : TE} {t : TA}
def MthQ (C : Addr) (m : Str) (sp : Sp) (t : TA) (σ : L2.St) (Q : VK) : VK := fun x H1 => ∃ a dx fs, x = .ref a ∧ H1 a = some (.ins C dx fs) ∧ fs.lookup m = none ∧ t σ H1 fun vs H2 => sp (x :: vs) H2 Q E0
theorem r_mth (k : ta σ H (MthQ C m sp t σ Q)) : tMth C m sp ta t σ H Q := k
theorem mthQ {a dx : Addr} {fs : List (Str × V)} (h : H a = some (.ins C dx fs)) (hl : fs.lookup m = none) (k : t σ H fun vs H2 => sp (.ref a :: vs) H2 Q E0) : MthQ C m sp t σ Q (.ref a) H := ⟨a, dx, fs, rfl, h, hl, k⟩
def RetQ (x : Addr) (Q : VK) : VK := fun v H2 => v = .non ∧ Q (.ref x) H2
theorem retQ {x : Addr} (k : Q (.ref x) H) : RetQ x Q .non H := ⟨rfl, k⟩
def MkQ (C : Addr) (sp : Sp) (Q : VK) : List V → Hp → Prop := fun vs H1 => ∀ x dx, H1 x = none → H1 dx = none → dx ≠ x → sp (.ref x :: vs) (upd (upd H1 dx (.own x)) x (.ins C dx [])) (RetQ x Q) E0
theorem r_mk (k : t σ H (MkQ C sp Q)) : tMk C sp t σ H Q := k
theorem mkQ {vs : List V} (S : Ok F B L H) (k : ∀ x dx H', Ok F B ((x, .ins C dx []) :: L) H' → sp (.ref x :: vs) H' (RetQ x Q) E0) : MkQ C sp Q vs H := fun x dx hx hdx ne =>
  k x dx _ ((S.junk hdx).newL (by rw [upd_ne (fun z => ne z.symm)]; exact hx))
end
end WK
namespace WK
open PySem PySem.Spec PyProof.Rows L2
/-- a def called with its last parameters by default -/
def FnGD (P : Program) (w : World) (K : PySem.W.Frag) (mg : Str → Option Value) (base : Heap) (k : Nat) (x : Str) (ps : List Str) (dvs : List V) (sp : Sp) : Prop :=
  ∃ f fd ds, FnOk P w K mg base CX0 k f fd ps sp ∧ mg x = some (.ref f) ∧ PySem.W.keepIn K (.ref f) = true ∧ Binds K fd ps ds ∧ Vals dvs ds
def spD (sp : Sp) (dvs : List V) : Sp := fun vs H Q E => sp (vs ++ dvs) H Q E
section
variable {X : Cx} {k : Nat} {x : Str} {ps : List Str} {dvs : List V} {sp : Sp} {e : Expr} {es : List Expr} {p pos : Pos} {t : TA}
end
end WK
namespace WK
open PySem PySem.Spec PyProof.Rows L2
theorem Src.map {α β : Type} {J : It} {GB : Hp → Led → Prop} {as : List α} {g : α → β} {R : Hp → V → β → Prop} (s : Src J GB (as.map g) R) : Src J GB as (fun B x a => R B x (g a)) := by
  obtain ⟨G, Y, w, h1, h2⟩ := s.ex
  rw [List.length_map] at w h2
  refine ⟨G, Y, w, h1, fun F B L i H x H' S q y hi => ?_⟩
  obtain ⟨b, B', e, ex, S', r⟩ := h2 F B L i H x H' S q y hi
  rw [List.getElem?_map] at e
  obtain ⟨a, ha, rfl⟩ := Option.map_eq_some_iff.mp e
  exact ⟨a, B', ha, ex, S', r⟩
end WK
namespace WK
open PySem PySem.Spec PyProof.Rows L2
section
variable {o e : Expr} {es : List Expr} {to : TE} {t : TA} {name : Str} {apos cpos : Pos} {T id : String} {r : V → List V → Hp → VK → Prop} {X : Cx}
theorem pe_bmU (K : PySem.W.Frag) (pa : PlainAttrs T) (slot : Slot T name id) (hty : typeOf (.builtin id) = pure (.type "method_descriptor")) (hm : MtR X id r) (ho : PE X o to) (ha : PA X (e :: es) t)
    (hbase : attributeBase o name X.env (eval o X.env) = eval o X.env := by rfl)
    (hfew : ((backTo cpos (starEach (e :: es) X.env)).all (fun x => !x.1) && (backToKw cpos (keywordEach [] X.env)).all (fun x => x.1.isSome)
      && decide ((e :: es).length + ([] : List Keyword).length + (if ([] : List Keyword).isEmpty then 0 else 1) < 30)) = true := by rfl)
    (hline : (apos.endLine == cpos.line) = true := by rfl) (hs : starEach (e :: es) X.env = (false, eval e X.env) :: starEach es X.env := by rfl) (hplain : (backTo cpos (starEach es X.env)).any (·.1) = false := by rfl) (hK : X.K = K := by rfl) :
    PE X (.Call (.Attribute o name apos) (e :: es) [] cpos) (tBM K T r to t) := by
  subst hK
  exact pe_bm pa slot hty hm ho ha hbase hfew hline hs hplain
end
section
variable {K : PySem.W.Frag} {F : Ent} {B H : Hp} {L : Led} {σ : L2.St} {Q : VK} {to : TE} {t : TA} {T : String} {r : V → List V → Hp → VK → Prop} {v : V} {a : Addr}
def BmQ (K : PySem.W.Frag) (T : String) (r : V → List V → Hp → VK → Prop) (t : TA) (σ : L2.St) (Q : VK) : VK := fun x H1 => tyV K T x H1 ∧ t σ H1 fun xs H2 => r x xs H2 Q
theorem r_bm (k : to σ H (BmQ K T r t σ Q)) : tBM K T r to t σ H Q := k
theorem r_bm0 (k : to σ H (BmQ K T r tNil σ Q)) : tBM0 K T r to σ H Q := k
theorem bmS {z : Str} (k : t σ H fun xs H2 => r (.str z) xs H2 Q) : BmQ K "str" r t σ Q (.str z) H := ⟨rfl, k⟩
theorem bmL {xs : List V} (h : SqL K H a xs) (k : t σ H fun xs H2 => r (.ref a) xs H2 Q) : BmQ K "list" r t σ Q (.ref a) H := ⟨.inl ⟨rfl, xs, h⟩, k⟩
theorem bmD {kvs : List (Key × V)} (h : H a = some (.dK kvs)) (k : t σ H fun xs H2 => r (.ref a) xs H2 Q) : BmQ K "dict" r t σ Q (.ref a) H := ⟨.inr (.inr (.inl ⟨rfl, .inl ⟨kvs, h⟩⟩)), k⟩
end
end WK

namespace WK
open PySem PySem.Spec PyProof.Rows L2
/-! ### data that can be told apart -/
theorem lay_all {ds : List PyData} (h : ∀ d ∈ ds, d.canLay0 = true) : PyData.canLayAll0 ds = true := by
  induction ds with
  | nil => rfl
  | cons d ds ih =>
    show (d.canLay0 && PyData.canLayAll0 ds) = true
    rw [h d (.head _), ih fun x hx => h x (.tail _ hx)]
    rfl
theorem depth_all {ds : List PyData} {n : Nat} (h : ∀ d ∈ ds, d.depth ≤ n) : PyData.depthAll ds ≤ n := by
  induction ds with
  | nil => exact Nat.zero_le _
  | cons d ds ih =>
    show max d.depth (PyData.depthAll ds) ≤ n
    exact Nat.max_le.mpr ⟨h d (.head _), ih fun x hx => h x (.tail _ hx)⟩
/-- shaped, with its depth -/
def Shp (n : Nat) (d : PyData) : Prop := d.canLay0 = true ∧ d.depth ≤ n
theorem Shp.lst {n : Nat} {ds : List PyData} (h : ∀ d ∈ ds, Shp n d) : Shp (n + 1) (.list ds) := ⟨lay_all fun d hd => (h d hd).1, Nat.succ_le_succ (depth_all fun d hd => (h d hd).2)⟩
theorem Shp.tup {n : Nat} {ds : List PyData} (h : ∀ d ∈ ds, Shp n d) : Shp (n + 1) (.tuple ds) := ⟨lay_all fun d hd => (h d hd).1, Nat.succ_le_succ (depth_all fun d hd => (h d hd).2)⟩
theorem Shp.int {n : Nat} {i : Int} : Shp n (.int i) := ⟨rfl, Nat.zero_le _⟩
theorem Shp.bl {n : Nat} {i : Bool} : Shp n (.bool i) := ⟨rfl, Nat.zero_le _⟩
theorem Shp.str {n : Nat} {z : Str} (h : z.cps.all (· < 0x110000) = true) : Shp n (.str z) := ⟨h, Nat.zero_le _⟩
theorem Shp.ok {n : Nat} {d : PyData} (h : Shp n d) (hn : n ≤ 64) : SeqAt.shaped d = true := by
  unfold SeqAt.shaped
  rw [h.1, decide_eq_true (Nat.le_trans h.2 hn)]
  rfl
section
variable {P : Program} {w : World} {K : PySem.W.Frag} {H B : Hp} {Q : VK} {F : Ent} {L : Led} {x y : V} {d : PyData} {n : Nat}
theorem v_neSame (S : Ok F B L H) (h1 : Dp K B x d) (h2 : Dp K B y d) (sh : Shp n d) (hn : n ≤ 64) (k : Q (.bl false) H) : OpU P w K (compareOp .NotEq) x y H Q :=
  .ofK (r := rNeD) (fun _ al => op_neD al.hu64) ⟨d, d, S.dp h1, S.dp h2, sh.ok hn, sh.ok hn, by rw [SeqAt.eqv_refl d sh.1]; exact k⟩
theorem v_eqSame (S : Ok F B L H) (h1 : Dp K B x d) (h2 : Dp K B y d) (sh : Shp n d) (hn : n ≤ 64) (k : Q (.bl true) H) : OpU P w K (compareOp .Eq) x y H Q :=
  .ofK (r := rEqD) (fun _ al => op_eqD al.hu64) ⟨d, d, S.dp h1, S.dp h2, sh.ok hn, sh.ok hn, by rw [SeqAt.eqv_refl d sh.1]; exact k⟩
theorem eqV_str {a b : Str} : eqV (.str a) (.str b) = decide (a = b) := by
  show (a == b) = decide (a = b)
  by_cases h : a = b
  · subst h; simp
  · rw [decide_eq_false h]; exact beq_eq_false_iff_ne.mpr h
theorem inV_strs (z : Str) (zs : List Str) : inV (.str z) (zs.map V.str) = decide (z ∈ zs) := by
  unfold inV
  rw [List.any_map]
  induction zs with
  | nil => rfl
  | cons a zs ih =>
    rw [List.any_cons, ih]
    show (eqV (.str a) (.str z) || _) = _
    rw [eqV_str]
    by_cases h : a = z
    · subst h; simp
    · rw [decide_eq_false h, Bool.false_or]
      by_cases h2 : z ∈ zs
      · rw [decide_eq_true h2]; exact (decide_eq_true (List.mem_cons_of_mem _ h2)).symm
      · rw [decide_eq_false h2]; exact (decide_eq_false (fun w => by rcases List.mem_cons.mp w with w | w; exact h w.symm; exact h2 w)).symm
theorem flat_strs (zs : List Str) : (zs.map V.str).all flatV = true := List.all_eq_true.mpr fun x hx => by
  obtain ⟨z, _, rfl⟩ := List.mem_map.mp hx
  rfl
/-- slices of data -/
theorem cutV_to (xs : List V) (j : Nat) : cutV xs none (some (j : Int)) = xs.take j := by
  unfold cutV
  rw [HT.sIx_none, HT.sIx_nat, List.drop_zero, Nat.sub_zero]
  rcases Nat.le_total j xs.length with h | h
  · rw [Nat.min_eq_left h]
  · rw [Nat.min_eq_right h, List.take_length, List.take_of_length_le h]
theorem cutV_from (xs : List V) (j : Nat) : cutV xs (some (j : Int)) none = xs.drop j := by
  unfold cutV
  rw [HT.sIx_none, HT.sIx_nat]
  rcases Nat.le_total j xs.length with h | h
  · rw [Nat.min_eq_left h]
    exact List.take_of_length_le (by rw [List.length_drop]; exact Nat.le_refl _)
  · rw [Nat.min_eq_right h, List.drop_length, List.drop_of_length_le h]
    simp
theorem _root_.L2.DpAll.take {vs : List V} {ds : List PyData} (h : DpAll K B vs ds) (j : Nat) : DpAll K B (vs.take j) (ds.take j) := by
  induction j generalizing vs ds with
  | zero => exact .nil
  | succ j ih =>
    cases h with
    | nil => exact .nil
    | cons h t => exact .cons h (ih t)
theorem _root_.L2.DpAll.drop {vs : List V} {ds : List PyData} (h : DpAll K B vs ds) (j : Nat) : DpAll K B (vs.drop j) (ds.drop j) := by
  induction j generalizing vs ds with
  | zero => exact h
  | succ j ih =>
    cases h with
    | nil => exact .nil
    | cons h t => exact ih t
theorem _root_.L2.DpAll.rev {vs : List V} {ds : List PyData} (h : DpAll K B vs ds) : DpAll K B vs.reverse ds.reverse := by
  induction vs generalizing ds with
  | nil => cases h; exact .nil
  | cons v vs ih =>
    cases h with
    | cons h t =>
      rw [List.reverse_cons, List.reverse_cons]
      exact (ih t).append (.cons h .nil)
theorem v_slTo {ds : List PyData} {j : Nat} (S : Ok F B L H) (h : Dp K B x (.list ds)) (k : ∀ r B' H', Ex B B' → Ok F B' L H' → Dp K B' r (.list (ds.take j)) → Q r H') : SlU P w K x none (some (j : Int)) H Q := by
  obtain ⟨a, xs, rfl, hq, ha⟩ := Dp.lst_inv h
  refine .ofK (r := rSlL) (fun _ _ => sl_list) ⟨a, xs, rfl, S.sqB hq, fun p hp => ?_⟩
  rw [cutV_to]
  obtain ⟨B', e, S', hD⟩ := (S.newL (o := .lst (xs.take j)) hp).toData (ha.take j)
  exact k _ _ _ e S' hD
theorem v_slFrom {ds : List PyData} {j : Nat} (S : Ok F B L H) (h : Dp K B x (.list ds)) (k : ∀ r B' H', Ex B B' → Ok F B' L H' → Dp K B' r (.list (ds.drop j)) → Q r H') : SlU P w K x (some (j : Int)) none H Q := by
  obtain ⟨a, xs, rfl, hq, ha⟩ := Dp.lst_inv h
  refine .ofK (r := rSlL) (fun _ _ => sl_list) ⟨a, xs, rfl, S.sqB hq, fun p hp => ?_⟩
  rw [cutV_from]
  obtain ⟨B', e, S', hD⟩ := (S.newL (o := .lst (xs.drop j)) hp).toData (ha.drop j)
  exact k _ _ _ e S' hD
/-- e[::-1] of a list -/
def RevQ (K : PySem.W.Frag) (Q : VK) : VK := fun x H1 => ∃ a xs, x = .ref a ∧ SqL K H1 a xs ∧ ∀ p, H1 p = none → Q (.ref p) (upd H1 p (.lst xs.reverse))
theorem r_revL {te : TE} {σ : L2.St} (k : te σ H (RevQ K Q)) : tRevL K te σ H Q := k
theorem revD {ds : List PyData} (S : Ok F B L H) (h : Dp K B x (.list ds)) (k : ∀ r B' H', Ex B B' → Ok F B' L H' → Dp K B' r (.list ds.reverse) → Q r H') : RevQ K Q x H := by
  obtain ⟨a, xs, rfl, hq, ha⟩ := Dp.lst_inv h
  refine ⟨a, xs, rfl, S.sqB hq, fun p hp => ?_⟩
  obtain ⟨B', e, S', hD⟩ := (S.newL (o := .lst xs.reverse) hp).toData ha.rev
  exact k _ _ _ e S' hD
/-! dicts -/
/-- what a value leads to may be locked behind it -/
def FrzQ (Q : VK) : VK := fun v H' => Q v H' ∨ ∃ d u, H' d = some u ∧ Mut (some u) ∧ ∀ od, Q v (upd H' d (.frz od u))
def tFrzA (t : TE) : TE := fun σ H Q => t σ H (FrzQ Q)
theorem r_frzA {t : TE} {σ : L2.St} (k : t σ H (FrzQ Q)) : tFrzA t σ H Q := k
end
end WK
namespace WK
open PySem PySem.Spec PyProof.Rows L2
/-! cuts -/
def tCut (t : TE) : TE := fun σ H Q => ∃ R : VK, t σ H R ∧ ∀ v H', R v H' → Q v H'
theorem pe_cut {X : Cx} {e : Expr} {t : TE} (h : PE X e t) : PE X e (tCut t) := by
  refine ⟨fun pins s σ H Q I hw => ?_⟩
  obtain ⟨R, h1, h2⟩ := hw
  exact thn (h.run pins s σ H R I h1) fun v s' ⟨x, H', I', r, q⟩ => ⟨x, H', I', r, h2 _ _ q⟩
theorem cutE {t : TE} {σ : L2.St} {H : Hp} {Q : VK} (R : VK) (h : t σ H R) (k : ∀ v H', R v H' → Q v H') : tCut t σ H Q := ⟨R, h, k⟩
def tCutS (t : TS) : TS := fun D σ H => ∃ N : L2.St → Hp → Prop, t { D with nx := N } σ H ∧ ∀ σ' H', N σ' H' → D.nx σ' H'
theorem ps_cut {X : Cx} {st : Stmt} {t : TS} (h : PS X st t) : PS X st (tCutS t) := by
  refine ⟨fun pins s σ H D I hw => ?_⟩
  obtain ⟨N, h1, h2⟩ := hw
  refine thn (h.run pins s σ H _ I h1) fun fl s' q => ?_
  cases fl with
  | next =>
    obtain ⟨σ', H', I', q⟩ := q
    exact ⟨σ', H', I', h2 _ _ q⟩
  | ret v => exact q
  | brk => exact q
  | cont => exact q
theorem cutS {t : TS} {σ : L2.St} {H : Hp} {D : Ends} (N : L2.St → Hp → Prop) (h : t { D with nx := N } σ H) (k : ∀ σ' H', N σ' H' → D.nx σ' H') : tCutS t D σ H := ⟨N, h, k⟩
end WK
namespace WK
open PySem PySem.Spec PyProof.Rows L2
end WK

namespace WK
open PySem PySem.Spec PyProof.Rows L2 PySem.W PySem.Calls
/-! a, *r = a list -/
section
variable {X : Cx} {pos : Pos}
def gStar (K : PySem.W.Frag) (n i : Nat) (t : TGs) : TG := fun v σ H Q => ∃ a xs, v = .ref a ∧ SqL K H a xs ∧ n ≤ xs.length + 1 ∧ xs.length ≤ 16384 ∧
  ∀ p, H p = none → t (xs.take i ++ [.ref p] ++ (xs.drop i).drop (xs.length + 1 - n)) σ (upd H p (.lst ((xs.drop i).take (xs.length + 1 - n)))) Q
theorem vals_take {xs : List V} {us : List Value} (r : Vals xs us) : ∀ j, Vals (xs.take j) (us.take j) := by
  induction r with
  | nil => intro j; simp only [List.take_nil]; exact .nil
  | cons h t ih =>
    intro j
    cases j with
    | zero => exact .nil
    | succ j => exact .cons h (ih j)
theorem vals_drop {xs : List V} {us : List Value} (r : Vals xs us) : ∀ j, Vals (xs.drop j) (us.drop j) := by
  induction r with
  | nil => intro j; simp only [List.drop_nil]; exact .nil
  | cons h t ih =>
    intro j
    cases j with
    | zero => exact .cons h t
    | succ j => exact ih j
theorem star_items {pins : List (Addr × Obj)} {s : Shared} {σ : L2.St} {H : Hp} {a : Addr} {xs : List V} {n i : Nat} {Q : List Value → Shared → Prop} (hc : X.calm = true) (I : Inv X pins σ H s) (hq : SqL X.K H a xs) (hi : i < n) (hn : n ≤ xs.length + 1) (hz : xs.length ≤ 16384)
    (h : ∀ p us s', H p = none → Inv X pins σ (upd H p (.lst ((xs.drop i).take (xs.length + 1 - n)))) s' → Vals (xs.take i ++ [.ref p] ++ (xs.drop i).drop (xs.length + 1 - n)) us → Q us s') :
    wpAny (model X.prog X.w) X.A (unpackItems (.ref a) n (some i)) Q X.xe s := by
  obtain ⟨its, rv, pl, _⟩ := I.list hq
  have hl := pl.isList
  have hlen : xs.length = its.length := rv.length
  have hh := I.ok.hd hc
  generalize hit : its.toArray = items at hl
  have hsz : items.size = xs.length := by rw [← hit, List.size_toArray, hlen]
  have hlist : items.toList = its := by rw [← hit]
  have hlt : a ≠ s.heap.objs.size := by obtain ⟨o, ho, _⟩ := hl; exact Nat.ne_of_lt (Heap.lt_size ho)
  unfold unpackItems
  refine wpAny_bind ?_
  unfold notIterableAtAll
  refine wpAny_bind (wpAny_specialOf hl.typeIs slot_list_iter.lookup ?_)
  refine wpAny_pure ?_
  simp only [Bool.false_eq_true, if_false]
  refine wpAny_bind (wpAny_holding (wpAny_pyIter_list hl ?_))
  refine wpAny_bind (wpAny_holding (kun_draw hlt i 0 _ _ ⟨_, Heap.get?_push_size _ rfl, rfl, rfl⟩ (hl.push _) (by omega) fun h₁ hit₁ hs₁ => ?_))
  have hl₁ : h₁.IsList a items := (hl.push _).extBut hs₁.extBut hlt
  rw [Nat.zero_add] at hit₁
  have hit₁' := hit₁
  obtain ⟨oi, hoi, _⟩ := hit₁'
  have hl₁' := hl₁
  obtain ⟨ol, hol, _⟩ := hl₁'
  rw [List.drop_zero]
  have hfl : (items.toList.take i).length = i := by rw [List.length_take, Array.length_toList]; omega
  rw [if_neg (show ¬ ((items.toList.take i).length < i) by rw [hfl]; omega)]
  refine wpAny_bind (wpAny_holding (kun_collect (s := { s with heap := h₁ }) (T := "list_iterator") (.inr (.inr (.inl rfl))) (Walks.list (A := X.A.in1) hh s.heap.objs.size a hlt items) (fun j u st => st.1.typeIs) (k := i) (by omega) ⟨hit₁, hl₁⟩ (Heap.lt_size hoi) (Heap.lt_size hol) (fun h₂ tk hk => ?_) (by rw [sizeLine_eq]; omega)))
  have hrl : (items.toList.drop i).length = items.size - i := by rw [List.length_drop, Array.length_toList]
  have hmid : (items.toList.drop i).length - (n - 1 - i) = items.size + 1 - n := by rw [hrl]; omega
  show wpAny _ _ (if (items.toList.drop i).length < n - 1 - i then _ else _) _ _ _
  rw [if_neg (by rw [hrl]; omega)]
  show wpAny _ _ (newList ((items.toList.drop i).take ((items.toList.drop i).length - (n - 1 - i))) >>= fun d => pure (items.toList.take i ++ [d] ++ (items.toList.drop i).drop ((items.toList.drop i).length - (n - 1 - i)))) _ _ _
  rw [hmid, hlist, hsz]
  have he : ∀ b o, s.heap.get? b = some o → h₂.get? b = some o := fun b o e => by
    have hb : b ≠ s.heap.objs.size := Nat.ne_of_lt (Heap.lt_size e)
    exact hk b o hb (hs₁.extBut b o hb (Heap.get?_push_of_some _ e))
  have I2 : Inv X pins σ H { s with heap := h₂, toks := tk } := I.kept he
  have hlm : ((its.drop i).take (xs.length + 1 - n)).length ≤ sizeLine := by rw [List.length_take, List.length_drop, sizeLine_eq]; omega
  refine wpAny_bind (wpAny_newList ?_ hlm)
  refine wpAny_pure ?_
  have I3 := I2.laid (t' := tk) (a := h₂.objs.size) (o := .lst ((xs.drop i).take (xs.length + 1 - n))) (h' := h₂.push { cls := .type "list", data := .seq ((its.drop i).take (xs.length + 1 - n)).toArray })
    (fun b u e => Heap.get?_push_of_some _ e) (Nat.le_refl _) ⟨by rw [List.length_take, List.length_drop, sizeLine_eq]; omega, _, 0, vals_take (vals_drop rv i) _, Heap.get?_push_size _ rfl⟩
  refine h h₂.objs.size _ _ (I2.hok.fresh (Nat.le_refl _)) I3 ?_
  have one : Vals [V.ref h₂.objs.size] [Value.ref h₂.objs.size] := .cons (show RelV (.ref h₂.objs.size) (.ref h₂.objs.size) from rfl) .nil
  exact ((vals_take rv i).append one).append (vals_drop (vals_drop rv i) _)
theorem pg_star (K : PySem.W.Frag) {es : List Expr} {k : Nat} {t : TGs} {n i : Nat} (h : PGs X es t) (hi : i < n) (hK : X.K = K := by rfl) (hc : X.calm = true := by rfl)
    (hn : (assignEach es X.env).length = n := by rfl) (hst : (assignEach es X.env).findIdx? (·.1) = some i := by rfl) : PG X (.Tuple es k pos) (gStar K n i t) := by
  subst hK
  refine ⟨fun pins s σ H v u Q I r hw => ?_⟩
  obtain ⟨a, xs, e1, hq, hl, hz, hw⟩ := hw
  subst e1
  cases r
  rw [PyProof.Rows.assign_Tuple]
  refine wpAny_bind (wpAny_standAt ?_)
  unfold unpack
  rw [hn, hst]
  refine wpAny_bind (wpAny_holding (star_items hc I hq hi hl hz fun p us s' hp I' r' => ?_))
  exact h.run pins s' σ _ _ us Q I' r' (hw p hp)
theorem pgs_star {e : Expr} {es : List Expr} {t : TG} {u : TGs} {p : Pos} (h1 : PG X e t) (h2 : PGs X es u)
    (hs : (assignEach (.Starred e p :: es) X.env).map (·.2) = assign e X.env :: (assignEach es X.env).map (·.2) := by rfl) : PGs X (.Starred e p :: es) (gCons t u) := by
  refine ⟨fun pins s σ H vs us Q I r h => ?_⟩
  obtain ⟨v, vr, e1, h⟩ := h
  subst e1
  cases r with
  | cons r rr =>
    rw [hs]
    refine assignInOrder_cons (thn (h1.run pins s σ H _ _ _ I r h) fun _ s1 ⟨σ1, H1, I1, q1⟩ => ?_)
    exact h2.run pins s1 σ1 H1 _ _ Q I1 rr q1
end
end WK
namespace WK
open PySem PySem.Spec PyProof.Rows L2
theorem pg_lstU (K : PySem.W.Frag) {X : Cx} {es : List Expr} {k : Nat} {t : TGs} {n : Nat} {pos : Pos} (h : PGs X es t) (hK : X.K = K := by rfl) (hc : X.calm = true := by rfl) (hn : (assignEach es X.env).length = n := by rfl) (hst : (assignEach es X.env).findIdx? (·.1) = none := by rfl) :
    PG X (.Tuple es k pos) (gLst K n t) := by
  subst hK
  exact pg_lst hc h hn hst
end WK
namespace WK
open PySem PySem.Spec PyProof.Rows L2
/-! texts -/
def numS (i : Int) : Str := (toString i : String)
section
variable {P : Program} {w : World} {K : PySem.W.Frag} {H B : Hp} {Q : VK} {F : Ent} {L : Led} {x : V}
theorem v_strI {i : Int} (h : i.natAbs.log2 < 1920) (k : Q (.str (numS i)) H) : CallU P w K (.type "str") [.int i] H Q := .of (fun _ _ => call_str_int) ⟨i, rfl, h, k⟩
theorem v_joinL {a : Addr} {z : Str} {ys : List Str} (h : SqL K H a (ys.map V.str)) (hz : (ys.map (·.length)).sum + ys.length * z.length ≤ 16777216) (k : Q (.str (Txt.join z ys)) H) : MetU P w K "str.join" (.str z) [.ref a] H Q :=
  .ofK (r := fun K x xs H Q => ∃ a p, ∃ ys : List Str, x = .str a ∧ xs = [.ref p] ∧ (SqL K H p (ys.map V.str) ∨ SqT K H p (ys.map V.str)) ∧ (ys.map (·.length)).sum + ys.length * a.length ≤ 16777216 ∧ Q (.str (Txt.join a ys)) H) (fun _ _ => mt_join) ⟨z, a, ys, rfl, rfl, .inl h, hz, k⟩
theorem v_splitS {z y : Str} (S : Ok F B L H) (hy : (y.length == 0) = false) (hz : z.length + 2 ≤ sizeLine) (k : ∀ p H', Ok F B ((p, .lst ((Txt.split z y).map V.str)) :: L) H' → Q (.ref p) H') : MetU P w K "str.split" (.str z) [.str y] H Q :=
  .of (fun _ _ => mt_split) ⟨z, y, rfl, rfl, hy, hz, fun p hp => k p _ (S.newL hp)⟩
theorem v_stripS {z y : Str} (hz : z.length ≤ sizeLine) (k : Q (.str (Txt.stripChars z y)) H) : MetU P w K "str.strip" (.str z) [.str y] H Q := .of (fun _ _ => mt_stripChars) ⟨z, y, rfl, rfl, hz, k⟩
theorem v_intS {z : Str} {n : Int} (h : PySem.intText? z = some n) (hz : z.length ≤ 640) (k : Q (.int n) H) : CallU P w K (.type "int") [.str z] H Q := .of (fun _ _ => call_int_str) ⟨z, n, rfl, h, hz, k⟩
end
end WK
namespace WK
open PySem PySem.Spec PyProof.Rows L2
theorem v_extendN {P : Program} {w : World} {K : PySem.W.Frag} {F : Ent} {B H : Hp} {L : Led} {Q : VK} {p b : Addr} {xs zs : List V} (n : Nat) (S : Ok F B L H) (h : L[n]? = some (p, .lst xs)) (hb : H b = some (.lst zs)) (hz : xs.length + zs.length ≤ sizeLine)
    (k : ∀ H', Ok F B (L.set n (p, .lst (xs ++ zs))) H' → Q .non H') : MetU P w K "list.extend" (.ref p) [.ref b] H Q :=
  .of (fun _ _ => mt_extend) ⟨p, b, xs, zs, rfl, rfl, (S.own _ (List.mem_of_getElem? h)).1, hb, hz, k _ (S.mutN n h)⟩
end WK
namespace WK
open PySem PySem.Spec PyProof.Rows L2
theorem r_gstar {K : PySem.W.Frag} {F : Ent} {B H : Hp} {L : Led} {σ : L2.St} {QG : L2.St → Hp → Prop} {a : Addr} {xs : List V} {n i : Nat} {t : TGs} (S : Ok F B L H) (h : SqL K H a xs) (hn : n ≤ xs.length + 1) (hz : xs.length ≤ 16384)
    (k : ∀ p H', Ok F B ((p, .lst ((xs.drop i).take (xs.length + 1 - n))) :: L) H' → t (xs.take i ++ [.ref p] ++ (xs.drop i).drop (xs.length + 1 - n)) σ H' QG) : gStar K n i t (.ref a) σ H QG := ⟨a, xs, rfl, h, hn, hz, fun p hp => k p _ (S.newL hp)⟩
end WK

namespace WK
open PySem PySem.Spec PyProof.Rows L2
theorem r_rU {g : Int → V} {i : Int} {H : Hp} {Q : VK} (k : Q (g i) H) : rU g (.int i) H Q := ⟨i, rfl, k⟩
/-! lists compared by their lengths -/
section
variable {X : Cx}
theorem op_eqLen (hu : X.A.units + 64 < cLine) : OpR X (compareOp .Eq) (fun x y H Q => ∃ a b xs ys, x = .ref a ∧ y = .ref b ∧ SqL X.K H a xs ∧ SqL X.K H b ys ∧ (xs.length ≠ ys.length ∨ (xs = [] ∧ ys = [])) ∧ Q (.bl (decide (xs.length = ys.length))) H) := by
  intro pins s σ H x y v u Q I rx ry h
  obtain ⟨a, b, xs, ys, rfl, rfl, h1, h2, h3, q⟩ := h
  cases rx
  cases ry
  obtain ⟨is, r1, p1, _⟩ := I.list h1
  obtain ⟨js, r2, p2, _⟩ := I.list h2
  have l1 := r1.length
  have l2 := r2.length
  rcases h3 with h3 | ⟨rfl, rfl⟩
  · refine SeqAt.eq_list_lengthsAt p1.isList p2.isList (by simp only [List.size_toArray, bne_iff_ne, ne_eq]; omega) (by omega) ⟨.bl _, H, I, rfl, ?_⟩
    rw [decide_eq_false h3] at q
    exact q
  · have e1 : is = [] := List.eq_nil_of_length_eq_zero (by rw [← l1]; rfl)
    have e2 : js = [] := List.eq_nil_of_length_eq_zero (by rw [← l2]; rfl)
    subst e1
    subst e2
    refine SeqAt.eq_listAt (e := fun _ => true) p1.isList p2.isList rfl (by omega) (fun j j1 j2 => absurd j1 (Nat.not_lt_zero _)) ⟨.bl _, H, I, rfl, q⟩
end
section
variable {P : Program} {w : World} {K : PySem.W.Frag} {H : Hp} {Q : VK} {a b : Addr} {xs ys : List V}
theorem v_eqLen (h1 : SqL K H a xs) (h2 : SqL K H b ys) (h3 : xs.length ≠ ys.length ∨ (xs = [] ∧ ys = [])) (k : Q (.bl (decide (xs.length = ys.length))) H) : OpU P w K (compareOp .Eq) (.ref a) (.ref b) H Q :=
  .ofK (r := fun K x y H Q => ∃ a b xs ys, x = .ref a ∧ y = .ref b ∧ SqL K H a xs ∧ SqL K H b ys ∧ (xs.length ≠ ys.length ∨ (xs = [] ∧ ys = [])) ∧ Q (.bl (decide (xs.length = ys.length))) H) (fun _ al => op_eqLen al.hu64) ⟨a, b, xs, ys, rfl, rfl, h1, h2, h3, k⟩
end
end WK
namespace WK
open PySem PySem.Spec PyProof.Rows L2
section
variable {F : Ent} {B H : Hp} {L : Led}
theorem nodup_pick {α : Type} {l : List α} (h : l.Nodup) : ∀ (is : List Nat), is.Nodup → (is.filterMap (l[·]?)).Nodup
  | [], _ => List.nodup_nil
  | i :: is, hn => by
    obtain ⟨h1, h2⟩ := List.nodup_cons.mp hn
    have ih := nodup_pick h is h2
    cases e : l[i]? with
    | none => rw [List.filterMap_cons_none e]; exact ih
    | some x =>
      rw [List.filterMap_cons_some e]
      refine List.nodup_cons.mpr ⟨fun hx => ?_, ih⟩
      obtain ⟨j, hj, ej⟩ := List.mem_filterMap.mp hx
      have := (List.getElem?_inj (List.getElem?_eq_some_iff.mp e).1 h).mp (e.trans ej.symm)
      exact h1 (this ▸ hj)
/-- some of the ledger, in another turn -/
theorem Ok.pick (S : Ok F B L H) (is : List Nat) (nd : is.Nodup) : Ok F B (is.filterMap (L[·]?)) H := by
  have hm : ∀ q ∈ is.filterMap (L[·]?), q ∈ L := fun q hq => by
    obtain ⟨j, _, ej⟩ := List.mem_filterMap.mp hq
    exact List.mem_of_getElem? ej
  refine ⟨S.ex, ?_, fun q hq => S.own q (hm q hq), S.ex0, S.keep, S.kA, S.fB, fun q hq => S.fL q (hm q hq)⟩
  have := nodup_pick S.nd is nd
  rw [List.map_filterMap]
  simpa only [List.getElem?_map] using this
theorem r_glstD {K : PySem.W.Frag} {σ : L2.St} {QG : L2.St → Hp → Prop} {t : TGs} {v : V} {ds : List PyData} {n : Nat} (S : Ok F B L H) (h : Dp K B v (.list ds)) (hn : ds.length = n) (k : ∀ vs, DpAll K B vs ds → t vs σ H QG) : gLst K n t v σ H QG := by
  obtain ⟨a, xs, rfl, hq, ha⟩ := Dp.lst_inv h
  exact ⟨a, xs, rfl, S.sqB hq, by rw [ha.length, hn], k xs ha⟩
end
/-- one of two promises -/
def spOr (a b : Sp) : Sp := fun vs H Q E => a vs H Q E ∨ b vs H Q E
theorem okOr {P : Program} {w : World} {K : PySem.W.Frag} {mg : Str → Option Value} {base : Heap} {CX : CXT} {k : Nat} {f : Addr} {fd : FuncData} {ps : List Str} {a b : Sp} (F : FnOk P w K mg base CX k f fd ps a) (G : FnOk P w K mg base CX k f fd ps b) : FnOk P w K mg base CX k f fd ps (spOr a b) :=
  ⟨fun vs H Q E h => h.elim (F.len vs H Q E) (G.len vs H Q E), fun A outer s H args us vs Q E hr he hb hv h => h.elim (F.run A outer s H args us vs Q E hr he hb hv) (G.run A outer s H args us vs Q E hr he hb hv)⟩
end WK
namespace WK
open PySem PySem.Spec PyProof.Rows L2
section
variable {X : Cx}
end
section
variable {P : Program} {w : World} {K : PySem.W.Frag} {F : Ent} {B H : Hp} {L : Led} {Q : VK} {a b p : Addr} {xs : List V}
theorem v_slStr {z : Str} {lo hi : Option Int} (hz : z.length ≤ sizeLine) (k : Q (.str (L2.cutS z lo hi)) H) : SlU P w K (.str z) lo hi H Q := .of (fun _ _ => sl_str) ⟨z, rfl, hz, k⟩
end
end WK

namespace WK
open PySem PySem.Spec PyProof.Rows L2
/-! enumerate over a list or a tuple -/
theorem isT_of {h : Heap} {a : Addr} {its : List Value} (p : IsTup h a its.toArray) : h.IsTuple a its.toArray := p
set_option maxHeartbeats 1000000 in
theorem enumNew1 {v : Value} {ob : Obj} {C : Heap → Prop} (Bg : Begins v ob C) :
    Meets (Builtin.«enumerate.__new__» ⟨[.type "enumerate", v], []⟩) (fun _ R sh => C sh.heap ∧ R (.ok (.ret (.ref (sh.heap.push ob).objs.size)))
      { sh with heap := (sh.heap.push ob).push { cls := .type "enumerate", data := .fields #[.none, .bool false, .ref sh.heap.objs.size, rawInt 0, .none, .none] } }) :=
  .of_wp fun pg wd Ar R sh hh => by
    obtain ⟨hp, gs, dr, tks, osx⟩ := sh; obtain ⟨hC, hR⟩ := hh
    have hs1 := sub_enumerate
    have itr : ∀ {A' : Around} {E' : Value → Shared → Prop} {Q' : Value → Shared → Prop}, Q' (.ref hp.objs.size) ⟨hp.push ob, gs, dr, tks, osx⟩ → wpAny (model pg wd) A' (pyIter v) Q' E' ⟨hp, gs, dr, tks, osx⟩ := fun q => Bg.iter pg wd _ _ ⟨hp, gs, dr, tks, osx⟩ _ hC q
    wp_walk using itr
    refine wpAny_stack_any fun stk => wpAny_pure ?_
    split
    · rename_i cc _ _ _ _ _
      cases (cc == Value.type "enumerate") <;> (wp_walk using itr; exact ⟨_, rfl, hR⟩)
    · wp_walk using itr
      exact ⟨_, rfl, hR⟩
theorem callEnum1 {P : Program} {w : World} {A : Around} {E : Value → Shared → Prop} {s : Shared} {v : Value} {ob : Obj} {C : Heap → Prop} {Q : Value → Shared → Prop} (Bg : Begins v ob C) (hC : C s.heap)
    (h : ∀ h', IsEnum h' (s.heap.objs.size + 1) s.heap.objs.size 0 .none → h'.get? s.heap.objs.size = some ob → (∀ b o, s.heap.get? b = some o → h'.get? b = some o) → Q (.ref (s.heap.objs.size + 1)) { s with heap := h' }) :
    wpAny (model P w) A (call (.type "enumerate") [v]) Q E s := by
  have hz : (s.heap.push ob).objs.size = s.heap.objs.size + 1 := Heap.size_push ..
  have he : IsEnum ((s.heap.push ob).push { cls := .type "enumerate", data := .fields #[.none, .bool false, .ref s.heap.objs.size, rawInt 0, .none, .none] }) (s.heap.objs.size + 1) s.heap.objs.size 0 .none := by
    have e1 := Heap.get?_push_size (s.heap.push ob) (o := { cls := .type "enumerate", data := .fields #[.none, .bool false, .ref s.heap.objs.size, rawInt 0, .none, .none] }) rfl
    rw [hz] at e1
    exact e1
  refine callType_new F.called_enumerate (by decide) (F.typeCall_enumerate_1 v) (F.newCall_enumerate_1 v) (fun x => F.args_object_init_2 x v) F.entry_enumerate_new (enumNew1 Bg) ⟨hC, ?_⟩
  show _ ∧ _
  rw [hz]
  exact ⟨⟨_, he, rfl⟩, h _ he (Heap.get?_push_of_some _ (Heap.get?_push_size _ Bg.free)) fun b o x => Heap.get?_push_of_some _ (Heap.get?_push_of_some _ x)⟩
/-- the tuple at a, each item in a new pair -/
def Itet (K : PySem.W.Frag) (a : Addr) : It :=
  ⟨fun i H => ∃ (xs : List V) (x : V), SqT K H a xs ∧ xs[i]? = some x, fun i H v H' => ∃ T x, v = .ref T ∧ H T = none ∧ H' = upd H T (.tup [.int (i : Nat), x]) ∧ ∀ xs, SqT K H a xs → xs[i]? = some x, fun i H => ∃ xs : List V, SqT K H a xs ∧ xs.length ≤ i⟩
theorem turn_enumT {P : Program} {w : World} {K : PySem.W.Frag} {elts : List Expr} {kk : Nat} {tpos : Pos} (a e it : Addr) :
    Turn P w K (.Tuple elts kk tpos) (Itet K a) [e, it] e (fun i h => (∃ old, IsEnum h e it ((i : Nat) : Int) old) ∧ h.IsTupleIter it a i ∧ e ≠ it) where
  mem := by simp
  obj := fun i h st b hb => by
    obtain ⟨⟨od, h1⟩, ⟨ob, h2, h3, h4⟩, _⟩ := st
    rcases (show b = e ∨ b = it by simpa using hb) with z | z
    · rw [z]
      exact ⟨_, h1, fun v q => nomatch q⟩
    · rw [z]
      exact ⟨ob, h2, fun v q => by rw [h4] at q; cases q⟩
  keep := fun i h h' st kp => let ⟨⟨od, h1⟩, h2, h3⟩ := st; ⟨⟨od, kp e (by simp) _ h1⟩, h2.at fun o q => kp it (by simp) o q, h3⟩
  item := by
    intro X hP hw hK hc i pins s σ H E I hf st hg
    subst hP hw hK
    obtain ⟨⟨od, h1⟩, h2, hne⟩ := st
    obtain ⟨xs, x, hq, hx⟩ := hg
    obtain ⟨its, rv, p, hz⟩ := I.tuple hq
    obtain ⟨u0, hu0, ru0⟩ := rv.get hx
    have pT := isT_of p
    have hel : e < s.heap.objs.size := Heap.lt_size h1
    have hil : it < s.heap.objs.size := by obtain ⟨_, q, _⟩ := h2; exact Heap.lt_size q
    have nea : e ≠ a := fun z => by
      obtain ⟨o, q, c, _⟩ := pT
      rw [← z, h1] at q
      cases q
      exact absurd (show Value.type "enumerate" = Value.type "tuple" from c) (by decide)
    have nia : a ≠ it := fun z => by
      obtain ⟨o, q, c, _⟩ := pT
      obtain ⟨o2, q2, c2, _⟩ := h2
      rw [z, q2] at q
      cases q
      rw [c2] at c
      exact absurd c (by decide)
    have hlt : i < its.toArray.size := by
      have := (List.getElem?_eq_some_iff.mp hu0).1
      simpa using this
    refine wpAny_pyNext_enum_itemC (Draws.tuple (A := X.A.in1) (I.ok.hd hc) it a nia its.toArray) h1 ⟨h2, pT⟩ hlt hne (by simp [hne, nea]) fun u h' tk pu ho st' hT hsz hk => ?_
    have eu : u = u0 := by
      have e1 : its.toArray[i]? = some u0 := by simpa using hu0
      rw [e1] at pu
      exact (Option.some.inj pu).symm
    subst eu
    refine ⟨_, rfl, wpAny_letOwnedTupleGo_enum (s := { s with heap := h', toks := tk + 1 }) ho fun hb he' sb => ?_⟩
    have hT2 : hb.get? s.heap.objs.size = some { cls := .type "tuple", data := .seq #[.int i tk, u] } := (sb.2 _ (Nat.ne_of_gt hel)).trans hT
    have nw : ObjOk X.prog X.w (upd H s.heap.objs.size (.tup [.int (i : Nat), x])) hb s.heap.objs.size (.tup [.int (i : Nat), x]) := ⟨by show 2 ≤ sizeLine; decide, [.int i tk, u], .cons ⟨_, rfl⟩ (.cons ru0 .nil), ⟨_, hT2, rfl, _, rfl⟩⟩
    have J1 : Inv X pins σ (upd H s.heap.objs.size (.tup [.int (i : Nat), x])) { s with heap := hb, toks := tk + 1 } :=
      I.turnedNew (ch := [e, it]) (fun b ob hbm q => (sb.2 b (fun z => hbm (by simp [z]))).trans (hk b ob (fun z => hbm (by simp [z])) (fun z => hbm (by simp [z])) q)) hf (Nat.le_refl _) nw
    refine ⟨.ref s.heap.objs.size, _, J1, rfl, ⟨_, x, rfl, I.hok.fresh (Nat.le_refl _), rfl, fun ys hy => by rw [I.tuple_inj hy hq]; exact hx⟩, ⟨⟨u, ?_⟩, st'.1.at fun o q => (sb.2 it (Ne.symm hne)).trans q, hne⟩, fun b hbm => ?_⟩
    · rw [show ((i + 1 : Nat) : Int) = (i : Int) + 1 by omega]
      exact he'
    · have hlt' : b < s.heap.objs.size := by
        rcases (show b = e ∨ b = it by simpa using hbm) with z | z
        · rw [z]; exact hel
        · rw [z]; exact hil
      rw [upd_ne (Nat.ne_of_lt hlt')]
      exact (hf b hbm).1
  done := by
    intro X hP hw hK hc i pins s σ H E I hf st hg
    subst hP hw hK
    obtain ⟨⟨od, h1⟩, h2, hne⟩ := st
    obtain ⟨xs, hq, hx⟩ := hg
    obtain ⟨its, rv, p, hz⟩ := I.tuple hq
    have pT := isT_of p
    obtain ⟨f0, f1, f2, f3, f4, f5⟩ := hf it (by simp)
    have hl := rv.length
    have nia : a ≠ it := fun z => by
      obtain ⟨o, q, c, _⟩ := pT
      obtain ⟨o2, q2, c2, _⟩ := h2
      rw [z, q2] at q
      cases q
      rw [c2] at c
      exact absurd c (by decide)
    have fin : ∀ (s' : Shared) (E' : Value → Shared → Prop) (Q' : Value → Shared → Prop), s'.heap.IsTupleIter it a i → s'.heap.IsTuple a its.toArray → (∀ h' e', Heap.ExtBut it s'.heap h' → (∃ o, h'.get? e' = some o ∧ o.cls = .type "StopIteration") → E' (.ref e') { s' with heap := h' }) →
        wpAny (model X.prog X.w) X.A.in1 (Builtin.SmallTypes.nextOf (.ref it)) Q' E' s' := fun s' E' Q' a1 a2 a3 => wpAny_nextOf_tuple_end (I.ok.hd hc) a1 a2 (by simp; omega) a3
    have D : Draws X.prog X.w X.A.in1 it [it, a] i (fun _ _ => False) (fun j h => j = i ∧ h.IsTupleIter it a i ∧ h.IsTuple a its.toArray) :=
      { live := fun _ _ q => let ⟨o, ho, _⟩ := q.2.1; ⟨o, ho⟩
        frame := fun _ _ _ q kp => ⟨q.1, q.2.1.at fun o y => kp it (by simp) o y, q.2.2.at fun o y => kp a (by simp) o y⟩
        item := fun j s' Q' E' hj q _ => absurd q.1 (Nat.ne_of_lt hj)
        done := fun s' Q' E' q hE => fin s' E' Q' q.2.1 q.2.2 hE }
    exact wpAny_pyNext_enum_endD D h1 ⟨rfl, h2, pT⟩ fun h' eb => ⟨rfl, I.turned (t' := s.toks) (fun b o hb q => eb b o hb q) f0 f1 f3 f4 f5⟩
  self := fun A i s Q E st h => let ⟨⟨_, h1⟩, _⟩ := st; wpAny_pyIter_enum h1 h
def iEnumV (K : PySem.W.Frag) (ta : TA) : TI := fun σ H R => ta σ H fun vs H1 => ∃ a xs, vs = [.ref a] ∧ ((SqL K H1 a xs ∧ R (Ite K a) H1) ∨ (SqT K H1 a xs ∧ R (Itet K a) H1))
theorem pi_enumV {X : Cx} {e : Expr} {ta : TA} {p pos tpos : Pos} {elts : List Expr} {kk : Nat} (hg : Gl X "enumerate") (hm : X.mg "enumerate" = none) (ha : PA X [e] ta) (hs : starEach [e] X.env = [(false, eval e X.env)] := by rfl) :
    PI X (.Tuple elts kk tpos) (.Call (.Name "enumerate" p) [e] [] pos) (iEnumV X.K ta) := by
  refine ⟨fun pins s σ H R I h => ?_⟩
  refine Call_ (ld_blt I hg hm boot_enumerate (PyProof.Rows.callWith_type1 (thn (ha.run pos pins s σ H _ I h) fun us s1 ⟨vs, H1, I1, r1, q1⟩ => ?_) hs rfl))
  obtain ⟨a, xs, rfl, q⟩ := q1
  cases r1 with
  | cons r rr =>
    cases rr
    cases r
    have fpk : ∀ (b : Addr), b ∈ [s1.heap.objs.size + 1, s1.heap.objs.size] → FpOk X pins H1 b := fun b hb => by
      have hle : s1.heap.objs.size ≤ b := by
        rcases (show b = s1.heap.objs.size + 1 ∨ b = s1.heap.objs.size by simpa using hb) with z | z
        · rw [z]; exact Nat.le_add_right _ _
        · rw [z]; exact Nat.le_refl _
      exact I1.fpOk hle (I1.hok.fresh hle)
    rcases q with ⟨hq, q⟩ | ⟨hq, q⟩
    · obtain ⟨its, rv, p', hz⟩ := I1.list hq
      exact call_enumerate_list p'.isList fun h' he hit hsz hk => wpAny_pyIter_enum he ⟨s1.heap.objs.size + 1, _, _, _, H1, rfl, I1.kept (t' := s1.toks) hk, turn_enum a (s1.heap.objs.size + 1) s1.heap.objs.size, ⟨⟨.none, he⟩, hit, Nat.succ_ne_self _⟩, fpk, q⟩
    · obtain ⟨its, rv, p', hz⟩ := I1.tuple hq
      exact callEnum1 (begins_tuple a its.toArray) (isT_of p') fun h' he hit hk => wpAny_pyIter_enum he ⟨s1.heap.objs.size + 1, _, _, _, H1, rfl, I1.kept (t' := s1.toks) hk, turn_enumT a (s1.heap.objs.size + 1) s1.heap.objs.size, ⟨⟨.none, he⟩, ⟨_, hit, rfl, rfl⟩, Nat.succ_ne_self _⟩, fpk, q⟩
def EnvQ (K : PySem.W.Frag) (R : It → Hp → Prop) : List V → Hp → Prop := fun vs H1 => ∃ a xs, vs = [.ref a] ∧ ((SqL K H1 a xs ∧ R (Ite K a) H1) ∨ (SqT K H1 a xs ∧ R (Itet K a) H1))
theorem r_enumV {K : PySem.W.Frag} {σ : L2.St} {H : Hp} {R : It → Hp → Prop} {ta : TA} (k : ta σ H (EnvQ K R)) : iEnumV K ta σ H R := k
section
variable {α : Type} {K : PySem.W.Frag} {a : Addr} {xs : List V}
theorem walk_enumT : Walk (Itet K a) xs.length (fun H => SqT K H a xs) fun i H x H' => ∃ T y, x = .ref T ∧ H T = none ∧ H' = upd H T (.tup [.int (i : Nat), y]) ∧ xs[i]? = some y where
  goes := fun i H hi g => ⟨xs, _, g, List.getElem?_eq_getElem hi⟩
  stops := fun H g => ⟨xs, g, Nat.le_refl _⟩
  yields := fun i H x H' hi g y => by
    obtain ⟨T, z, e1, e2, e3, e4⟩ := y
    exact ⟨T, z, e1, e2, e3, e4 xs g⟩
/-- one's own list that is walked with its places -/
abbrev PrE (K : PySem.W.Frag) (enc : α → PyData) : Hp → V → α × Nat → Prop := fun B x y => ∃ T u, x = .ref T ∧ B T = some (.tup [.int (y.2 : Nat), u]) ∧ Dp K B u (enc y.1)
theorem src_enumT {as : List α} {enc : α → PyData} : Src (Itet K a) (fun B _ => SqT K B a xs ∧ DpAll K B xs (as.map enc)) as.zipIdx (PrE K enc) := by
  by_cases hl : xs.length = as.length
  · refine ⟨_, _, (by rw [List.length_zipIdx]; exact hl ▸ walk_enumT (xs := xs)), fun F B L H S g => S.tqB g.1, fun F B L i H x H' S g y hi => ?_⟩
    obtain ⟨T, y', rfl, n, rfl, e2⟩ := y
    obtain ⟨d, hd, hx⟩ := g.2.get e2
    rw [List.getElem?_map] at hd
    cases e : as[i]? with
    | none => rw [e] at hd; cases hd
    | some z =>
      rw [e] at hd
      cases hd
      exact ⟨(z, i), upd B T (.tup [.int (i : Nat), y']), getElem_zipIdx e, S.exB n, S.newB n, T, y', rfl, upd_same, hx.up (S.exB n)⟩
  · refine ⟨fun _ => False, fun _ _ _ _ => False, ⟨fun _ _ _ h => h.elim, fun _ h => h.elim, fun _ _ _ _ _ h => h.elim⟩, fun F B L H S g => hl ?_, fun F B L i H x H' S g y hi => y.elim⟩
    have := g.2.length
    rw [List.length_map] at this
    exact this
theorem Src.weak {J : It} {GB GB' : Hp → Led → Prop} {as : List α} {R : Hp → V → α → Prop} (s : Src J GB as R) (h : ∀ B L, GB' B L → GB B L) : Src J GB' as R := by
  obtain ⟨G, Y, wk, h1, h2⟩ := s.ex
  exact ⟨G, Y, wk, fun F B L H S g => h1 F B L H S (h B L g), fun F B L i H x H' S g => h2 F B L i H x H' S (h B L g)⟩
/-- data walked with places: a list or a tuple -/
theorem enuD {F : Ent} {B H : Hp} {L : Led} {R : It → Hp → Prop} {as : List α} {enc : α → PyData} {v : V} (S : Ok F B L H) (h : Dp K B v (.list (as.map enc)) ∨ Dp K B v (.tuple (as.map enc)))
    (k : ∀ J, Src J (fun B' _ => Ex B B') as.zipIdx (PrE K enc) → R J H) : EnvQ K R [v] H := by
  rcases h with h | h
  · obtain ⟨a, xs, rfl, hq, ha⟩ := Dp.lst_inv h
    exact ⟨a, xs, rfl, .inl ⟨S.sqB hq, k _ (src_enum.weak fun B' L' (e : Ex B B') => ⟨.inl (e.sqL hq), ha.up e⟩)⟩⟩
  · obtain ⟨a, xs, rfl, hq, ha⟩ := Dp.tup_inv h
    exact ⟨a, xs, rfl, .inr ⟨S.tqB hq, k _ (src_enumT.weak fun B' L' (e : Ex B B') => ⟨e.sqT hq, ha.up e⟩)⟩⟩
end
end WK

namespace WK
open PySem PySem.Spec PyProof.Rows L2
theorem pe_bt {X : Cx} {x : Str} {n : String} {pos : Pos} (hm : X.mg x = none) (hv : bootBuiltins x = some (.type n)) (hg : Gl X x) (hn : x ≠ "__name__" := by decide) (hd : (x == ("__debug__" : Str)) = false := by decide) : PE X (.Name x pos) (tC (.ty n)) :=
  pe_bltn hg hm hv (show RelV (.ty n) (.type n) from rfl) hn hd
/-! isinstance of data -/
def tyD : PyData → String
  | .none => "NoneType"
  | .bool _ => "bool"
  | .int _ => "int"
  | .str _ => "str"
  | .list _ => "list"
  | .tuple _ => "tuple"
  | _ => ""
def isT (a b : String) : Bool := a == b || (a == "bool" && b == "int")
section
variable {P : Program} {w : World} {K : PySem.W.Frag} {F : Ent} {B H : Hp} {L : Led} {Q : VK} {v : V} {d : PyData} {a : Addr} {xs : List V}
abbrev kTypes : List String := ["list", "tuple", "str", "int", "bool"]
end
/-- what may be compared place by place -/
def AlOk : Nat → PyData → Prop
  | _, .none => True
  | _, .bool _ => True
  | _, .int _ => True
  | _, .str _ => True
  | n + 1, .list ds => ds.length ≤ 100000 ∧ ∀ d ∈ ds, AlOk n d
  | n + 1, .tuple ds => ds.length ≤ 100000 ∧ ∀ d ∈ ds, AlOk n d
  | _, _ => False
theorem AlOk.lst {n : Nat} {ds : List PyData} (h : ds.length ≤ 100000) (k : ∀ d ∈ ds, AlOk n d) : AlOk (n + 1) (.list ds) := ⟨h, k⟩
theorem AlOk.tup {n : Nat} {ds : List PyData} (h : ds.length ≤ 100000) (k : ∀ d ∈ ds, AlOk n d) : AlOk (n + 1) (.tuple ds) := ⟨h, k⟩
theorem AlOk.int {n : Nat} {i : Int} : AlOk n (.int i) := by cases n <;> exact True.intro
theorem AlOk.str {n : Nat} {z : Str} : AlOk n (.str z) := by cases n <;> exact True.intro
theorem AlOk.bl {n : Nat} {b : Bool} : AlOk n (.bool b) := by cases n <;> exact True.intro
theorem AlOk.non {n : Nat} : AlOk n .none := by cases n <;> exact True.intro
end WK
namespace WK
open PySem PySem.Spec PyProof.Rows L2
/-- data in a list or a tuple -/
def Dpl (K : PySem.W.Frag) (B : Hp) (v : V) (ds : List PyData) : Prop := Dp K B v (.list ds) ∨ Dp K B v (.tuple ds)
theorem Dpl.up {K : PySem.W.Frag} {B B' : Hp} {v : V} {ds : List PyData} (e : Ex B B') (h : Dpl K B v ds) : Dpl K B' v ds := h.elim (fun h => .inl (h.up e)) fun h => .inr (h.up e)
section
variable {α : Type} {F : Ent} {B H : Hp} {L : Led} {σ : L2.St} {K : PySem.W.Frag} {P : Program} {w : World} {tg : Expr} {as : List α} {enc : α → PyData} {v : V} {Q : VK}
theorem forDW {g : TG} {tb : TS} {D : Ends} (S : Ok F B L H) (h : Dpl K B v (as.map enc)) (I : Nat → L2.St → Hp → Led → Prop) (h0 : I 0 σ B L)
    (hs : ∀ i a x σ B0 B1 L H, as[i]? = some a → I i σ B0 L → Ex B B0 → Ex B0 B1 → Ok F B1 L H → Dp K B1 x (enc a) → g x σ H fun σ2 H2 => tb { D with nx := NxE F B (I (i + 1)), ct := NxE F B (I (i + 1)), bk := D.nx } σ2 H2)
    (hd : ∀ σ B1 L H, I as.length σ B1 L → Ex B B1 → Ok F B1 L H → D.nx σ H) : ItU P w K tg v H (ForW g tb D σ) := by
  rcases h with h | h
  · exact forDL S h I h0 hs hd
  · exact forDT S h I h0 hs hd
theorem v_lenDW {ds : List PyData} (S : Ok F B L H) (h : Dpl K B v ds) (k : Q (.int ds.length) H) : CallU P w K (.builtin "len") [v] H Q := by
  rcases h with h | h
  · exact v_lenDL S h k
  · exact v_lenDT S h k
end
end WK
namespace WK
open PySem PySem.Spec PyProof.Rows L2
section
variable {P : Program} {w : World} {K : PySem.W.Frag} {H : Hp} {Q : VK} {v : V}
end
end WK
namespace WK
open PySem L2
end WK

/-! set(a list of ints and texts) -/
namespace WK
open PySem PySem.Spec PyProof.Rows L2
/-- the keys seen among the first i, and how many unlike ones -/
def seen (ks : Nat → Key) (i : Nat) (k : Key) : Bool := (List.range i).any fun j => decide (ks j = k)
def unlike (ks : Nat → Key) : Nat → Nat
  | 0 => 0
  | i + 1 => if seen ks i (ks i) = true then unlike ks i else unlike ks i + 1
theorem seen_succ (ks : Nat → Key) (i : Nat) (k : Key) : seen ks (i + 1) k = (seen ks i k || decide (k = ks i)) := by
  unfold seen
  rw [List.range_succ, List.any_append]
  simp only [List.any_cons, List.any_nil, Bool.or_false]
  congr 1
  by_cases h : ks i = k
  · rw [decide_eq_true h, decide_eq_true h.symm]
  · rw [decide_eq_false h, decide_eq_false fun z => h z.symm]
theorem unlike_le (ks : Nat → Key) : ∀ i, unlike ks i ≤ i
  | 0 => Nat.le_refl _
  | i + 1 => by
    have := unlike_le ks i
    unfold unlike
    split <;> omega
section
variable {prog : Program} {w : World} {A : Around} {R : Result → Shared → Prop} {I : Addr} {fp wr : List Addr} {G : Array GenState → Array GenState → Prop} {n : Nat} {P : Nat → Value → Prop} {St : Nat → Shared → Prop}
theorem set_fill (W : WalksS prog w A.in1 I fp wr G n P St) (D : Addr) (hD : D ∉ fp) (ks : Nat → Key) (hks : ∀ i v, P i v → RelV (kV (ks i)) v) (hb : n + 1 < scanBound) :
    ∀ (left i : Nat) (s : Shared), n - i = left → i ≤ n → St i s → s.heap.SetOf (mixKind prog w) D (seen ks i) (unlike ks i) →
      (∀ s', Moved (D :: wr) G s s' → s'.heap.SetOf (mixKind prog w) D (seen ks n) (unlike ks n) → R (.ok (.ret .none)) s') → codeAny (model prog w) A (.builtin "set.update.loop" ⟨[.ref D, .ref I], []⟩) R s := by
  have out : D ∉ wr := fun h => hD (W.sub _ h)
  have more : ∀ b ∈ wr, b ∈ D :: wr := fun b hb => List.mem_cons_of_mem _ hb
  have stays : ∀ {s s' : Shared} {S : Key → Bool} {c : Nat}, Moved wr G s s' → s.heap.SetOf (mixKind prog w) D S c → s'.heap.SetOf (mixKind prog w) D S c := fun hm hS => setOf_at hS fun o ho => hm.heap D o out ho
  intro left
  induction left with
  | zero =>
    intro i s hk hi hst hS fin
    obtain rfl : i = n := by omega
    refine codeAny_builtin PyProof.Rows.F.entry_set_update_loop ?_
    rw [Around.under_plainId PyProof.Rows.F.plain_set_update_loop _]
    show wpAny _ A.in1 (pyNext (.ref I) >>= _) _ _ s
    exact wpAny_bind (W.done s _ _ hst fun s' hm => wpAny_pure (fin s' (hm.mono more) (stays hm hS)))
  | succ left ih =>
    intro i s hk hi hst hS fin
    have hlt : i < n := by omega
    refine codeAny_builtin PyProof.Rows.F.entry_set_update_loop ?_
    rw [Around.under_plainId PyProof.Rows.F.plain_set_update_loop _]
    show wpAny _ A.in1 (pyNext (.ref I) >>= _) _ _ s
    refine wpAny_bind (W.item i s _ _ hlt hst fun v s1 hv hst1 hm => ?_)
    have rv := hks i v hv
    show wpAny _ A.in1 (holding [v] (setAdd D v) >>= _) _ _ s1
    refine wpAny_bind (wpAny_holding ?_)
    unfold setAdd
    refine wpAny_holding (wpAny_bind ((mixKind prog w).pyHash (k := ks i) (kV_is rv) ?_))
    have hS1 := stays hm hS
    have room : unlike ks i + 1 < scanBound := by have := unlike_le ks i; omega
    refine wpAny_setAddHashed_of (knd := mixKind prog w) (s := { s1 with toks := s1.toks + 1 }) (kV_is rv) (key_scan rv) hS1 room fun h' sb new => ?_
    have new1 : h'.SetOf (mixKind prog w) D (seen ks (i + 1)) (unlike ks (i + 1)) := by
      have e1 : (fun k => seen ks i k || decide (k = ks i)) = seen ks (i + 1) := funext fun k => (seen_succ ks i k).symm
      have e2 : unlike ks (i + 1) = if seen ks i (ks i) = true then unlike ks i else unlike ks i + 1 := rfl
      rw [e1] at new
      rw [e2]
      exact new
    refine wpAny_pure ⟨plainId_quiet PyProof.Rows.F.plain_set_update_loop _, ih (i + 1) _ (by omega) hlt (W.frame _ s1 _ _ hst1 (Nat.le_succ _) fun b hb o e => ?_) new1 fun s2 hm2 hS2 => ?_⟩
    · rw [sb.2 b fun z => hD (z ▸ hb)]
      exact e
    · refine fin s2 (Moved.trans W.gtrans ((hm.mono more).then_heap (Nat.le_succ _) fun b o hb e => ?_) hm2) hS2
      rw [sb.2 b fun z => hb (by rw [z]; exact List.mem_cons_self)]
      exact e
end
section
variable {prog : Program} {w : World} {A : Around} {E : Value → Shared → Prop} {s : Shared}
set_option maxHeartbeats 4000000 in
theorem set_init_of {M : Model} {A : Around} {E : Value → Shared → Prop} {s : Shared} {Q : Fin → Shared → Prop} {D l : Addr} {dict : Option Addr} {slots : Array (Option Value)} {od : Data} {led : Bool}
    (at0 : s.heap.get? D = some { cls := .type "set", dict := none, data := .set #[] 0 (.fresh 0 0 led) }) (hol : s.heap.get? l = some { cls := .type "list", dict := dict, data := od, slots := slots })
    (k : wpAny M A (pyIter (.ref l)) (fun a s' => wpAny M A (runValue (Code.builtin "set.update.loop" ⟨[.ref D, a], []⟩)) (fun _ s' => Q (.done (.ret .none)) s') E s') E s) :
    wpAny M A (Builtin.«set.__init__» ⟨[.ref D, .ref l], []⟩) Q E s := by
  have f8 := PySem.F.sub_list_set
  have f9 := PySem.F.sub_list_frozenset
  have ne : (Value.type "list" == Value.type "dict") = false := by decide
  unfold Builtin.«set.__init__» noKeywords Builtin.Frozenset.updateFrom
  generalize hPI : pyIter = PI at k
  wp_walk
  refine wpAny_mono k (fun a s' h => ?_) fun _ _ h => h
  exact wpAny_bind (wpAny_mono h (fun _ s2 h2 => wpAny_pure (wpAny_pure h2)) fun _ _ h => h)
set_option maxHeartbeats 4000000 in
theorem set_of_list {l : Addr} {items : Array Value} {ks : Nat → Key} {Q : Value → Shared → Prop} (hh : A.handled = none) (hl : s.heap.IsList l items) (hi : ∀ (i : Nat) (v : Value), items[i]? = some v → RelV (kV (ks i)) v) (hb : items.size + 1 < scanBound)
    (fin : ∀ (h' : Heap) (tk : Nat), h'.SetOf (mixKind prog w) s.heap.objs.size (seen ks items.size) (unlike ks items.size) → (∀ b o, b < s.heap.objs.size → s.heap.get? b = some o → h'.get? b = some o) → Q (.ref s.heap.objs.size) { s with heap := h', toks := tk }) :
    wpAny (model prog w) A (call (.type "set") [.ref l]) Q E s := by
  obtain ⟨c, tl, hmro⟩ := PySem.F.called_set.mro
  have f1 := PySem.F.called_set.made
  have f2 := PySem.F.called_set.sub
  refine wpAny_call (codeAny_of_tree ?_)
  show wpAny _ _ (callAny (.type "set") _) _ _ _
  refine wpAny_pure ⟨Code.quiet_builtin _ (by decide +kernel), codeAny_builtin PySem.F.entry_type_call ?_⟩
  rw [Around.under_plain (weight_type_call_type "set" [.ref l] []) rfl]
  have f3 := PySem.F.called_set.notType
  have f4 := PySem.F.called_set.canCreate
  have f5 := PySem.F.typeCall_set_1 (.ref l)
  repeat (any_goals (first | assumption | wp_step))
  refine codeAny_mono (code_set_new_1 (.ref l) (E := E) (Q₁ := fun obj s1 => ∃ led : Bool, obj = .ref s.heap.objs.size ∧ s1 = { s with heap := s.heap.push { cls := .type "set", dict := none, data := .set #[] 0 (.fresh 0 0 led) } }) fun led => ⟨led, rfl, rfl⟩) fun r s1 hr => ?_
  cases r with
  | error e => exact hr
  | ok fl =>
    cases fl with
    | ret obj =>
      obtain ⟨led, rfl, rfl⟩ := hr
      generalize hg : s.heap.push { cls := .type "set", dict := none, data := .set #[] 0 (.fresh 0 0 led) } = g
      have at0 : g.get? s.heap.objs.size = some { cls := .type "set", dict := none, data := .set #[] 0 (.fresh 0 0 led) } := by rw [← hg]; exact Heap.get?_push_size _ rfl
      have kept : ∀ {b : Addr} {o : Obj}, s.heap.get? b = some o → g.get? b = some o := fun e => by rw [← hg]; exact Heap.get?_push_of_some _ e
      have gsz : g.objs.size = s.heap.objs.size + 1 := by rw [← hg]; exact Heap.size_push ..
      have ty : Shared.TypeIs { s with heap := g } (.ref s.heap.objs.size) "set" := ⟨_, at0, rfl⟩
      have f6 := PySem.F.called_set.init.lookup
      have f7 := PySem.F.called_set.init.bind (.ref s.heap.objs.size)
      repeat (any_goals (first | assumption | wp_step))
      refine codeAny_mono (codeAny_call_builtin (R := wants (fun r s2 => r = .none ∧ ∃ h' tk, s2 = { s with heap := h', toks := tk } ∧ h'.SetOf (mixKind prog w) s.heap.objs.size (seen ks items.size) (unlike ks items.size) ∧
          (∀ b o, b < s.heap.objs.size → s.heap.get? b = some o → h'.get? b = some o)) E) PySem.F.called_set.init.plain PySem.F.entry_set_init (check_set_init_1 ty ?_)) fun r2 s2 hr2 => ?_
      · obtain ⟨ol, hol, hcl, nl, hdl⟩ := hl
        obtain ⟨ocls, odict, odata, oslots⟩ := ol
        simp only at hcl hdl
        subst hcl; subst hdl
        have hol1 := kept hol
        have hl1 : g.IsList l items := ⟨_, hol1, rfl, nl, rfl⟩
        refine set_init_of at0 hol1 (wpAny_pyIter_list hl1 (wpAny_runValue ?_))
        have lts : l < s.heap.objs.size := Heap.lt_size hol
        have hh3 : A.in1.in1.in1.handled = none := by simp [hh]
        have neI : l ≠ g.objs.size := by rw [gsz]; exact Nat.ne_of_lt (Nat.lt_succ_of_lt lts)
        have outs : s.heap.objs.size ∉ [g.objs.size, l] := by
          rw [gsz]
          simp only [List.mem_cons, List.not_mem_nil, or_false, not_or]
          exact ⟨Nat.ne_of_lt (Nat.lt_succ_self _), Nat.ne_of_gt lts⟩
        refine set_fill ((Walks.list hh3 _ l neI items).toS) s.heap.objs.size outs ks hi hb (items.size - 0) 0 _ (by omega) (Nat.zero_le _) ⟨⟨_, Heap.get?_push_size _ rfl, rfl, rfl⟩, (hl1.push _)⟩ ?start ?done
        case start =>
          have at1 : (g.push { cls := .type "list_iterator", data := .fields #[.ref l, .int 0 0] }).get? s.heap.objs.size = some { cls := .type "set", dict := none, data := .set #[] 0 (.fresh 0 0 led) } := Heap.get?_push_of_some _ at0
          exact ⟨_, #[], 0, _, at1, ⟨rfl, rfl, rfl⟩, rfl, fun e he => by simp at he, fun k => ⟨fun z => by simp [seen] at z, fun ⟨e, he, _⟩ => by simp at he⟩, by decide, by rfl, rfl⟩
        case done =>
          intro s' hm hS
          obtain ⟨h', g', d', tk', os'⟩ := s'
          obtain rfl : g' = s.gens := hm.gens
          obtain rfl : d' = s.drawn := hm.drawn
          obtain rfl : os' = s.os := hm.os
          refine ⟨rfl, h', tk', rfl, hS, fun b o hb e => ?_⟩
          refine hm.heap b o ?_ (Heap.get?_push_of_some _ (kept e))
          simp only [List.mem_cons, List.not_mem_nil, or_false, not_or]
          exact ⟨Nat.ne_of_lt hb, by rw [gsz]; exact Nat.ne_of_lt (Nat.lt_succ_of_lt hb)⟩
      · cases r2 with
        | error e => exact hr2
        | ok fl2 =>
          cases fl2 with
          | ret r =>
            obtain ⟨rfl, h', tk, rfl, hS', hk'⟩ := hr2
            repeat (any_goals (first | assumption | wp_step))
            exact fin _ _ hS' hk'
          | _ => exact hr2.elim
    | _ => exact hr.elim
end
section
variable {P : Program} {w : World} {K : PySem.W.Frag} {H B : Hp} {Q : VK} {F : Ent} {L : Led} {a : Addr}
/-- set(xs), xs a list of ints and texts -/
theorem v_setOf {xs : List Key} (S : Ok F B L H) (h : SqL K H a (xs.map kV)) (hz : xs.length < 4000)
    (k : ∀ p H', Ok F B ((p, SetK P w p (seen (fun i => xs.getD i (.inl 0)) xs.length) (unlike (fun i => xs.getD i (.inl 0)) xs.length)) :: L) H' → Q (.ref p) H') : CallU P w K (.type "set") [.ref a] H Q := by
  intro X pins s σ us al I r
  obtain ⟨rfl, rfl, rfl, hc, hu⟩ := al
  obtain ⟨u, rfl, ru⟩ := vals1 r
  obtain rfl : u = Value.ref a := ru
  obtain ⟨its, rv, pl, _⟩ := I.list h
  have hlen : its.toArray.size = xs.length := by rw [List.size_toArray, ← rv.length, List.length_map]
  refine set_of_list (I.ok.hd hc) pl.isList (ks := fun i => xs.getD i (.inl 0)) (fun i v e => ?_) (by rw [hlen]; unfold scanBound; omega) fun h' tk new kp => ?_
  · have e' : its[i]? = some v := by simpa using e
    have hi : i < xs.length := by
      have := (List.getElem?_eq_some_iff.mp e').1
      have := rv.length
      rw [List.length_map] at this
      omega
    obtain ⟨v', hv', r'⟩ := rv.get (i := i) (x := kV (xs[i])) (by rw [List.getElem?_map, List.getElem?_eq_getElem hi]; rfl)
    rw [e'] at hv'
    cases hv'
    show RelV (kV (xs.getD i (.inl 0))) v
    rw [List.getD_eq_getElem?_getD, List.getElem?_eq_getElem hi]
    exact r'
  · rw [hlen] at new
    have hn : H s.heap.objs.size = none := I.hok.fresh (Nat.le_refl _)
    refine ⟨.ref s.heap.objs.size, upd H s.heap.objs.size (SetK X.prog X.w s.heap.objs.size _ _), I.laid (a := s.heap.objs.size) (o := SetK X.prog X.w s.heap.objs.size _ _) (h' := h') (t' := tk) (fun b o e => kp b o (Heap.lt_size e) e) (Nat.le_refl _) (setK_new new), rfl, k _ _ (S.newL hn)⟩
theorem v_lenSet {p : Addr} {T : Key → Bool} {n : Nat} (h : H p = some (SetK P w p T n)) (hz : n < 2 ^ 62) (k : Q (.int n) H) : CallU P w K (.builtin "len") [.ref p] H Q := by
  intro X pins s σ us al I r
  obtain ⟨rfl, rfl, rfl, hc, hu⟩ := al
  obtain ⟨u, rfl, ru⟩ := vals1 r
  obtain rfl : u = Value.ref p := ru
  obtain ⟨o, es, ep, t, ho, hex, hd, _, _, _, hf, hn⟩ := setK_get I h
  exact call_len_set ho hex hd hf (by rw [hn]; omega) ⟨.int n, H, I.tok _, ⟨_, by rw [hn]⟩, k⟩
end
/-- all unlike: as many as there are -/
theorem unlike_nodup {xs : List Key} (h : xs.Nodup) : ∀ i, i ≤ xs.length → unlike (fun i => xs.getD i (.inl 0)) i = i
  | 0, _ => rfl
  | i + 1, hi => by
    have ih := unlike_nodup h i (by omega)
    have no : seen (fun i => xs.getD i (.inl 0)) i (xs.getD i (.inl 0)) = false := by
      unfold seen
      rw [List.any_eq_false]
      intro j hj
      rw [List.mem_range] at hj
      simp only [decide_eq_true_eq]
      have hj' : j < xs.length := by omega
      have hi' : i < xs.length := by omega
      rw [List.getD_eq_getElem?_getD, List.getD_eq_getElem?_getD, List.getElem?_eq_getElem hj', List.getElem?_eq_getElem hi']
      exact (List.pairwise_iff_getElem.mp h) j i hj' hi' hj
    show (if seen _ i _ = true then _ else _) = _
    rw [no, if_neg Bool.false_ne_true, ih]
end WK
namespace WK
open PySem PySem.Spec PyProof.Rows L2
section
variable {P : Program} {w : World} {F : Ent} {B H : Hp} {L : Led} {K : PySem.W.Frag} {Q : VK} {v : V}
theorem v_setOfD {ss : List Str} (S : Ok F B L H) (h : Dp K B v (.list (ss.map PyData.str))) (hz : ss.length < 4000)
    (k : ∀ p H', Ok F B ((p, SetK P w p (seen (fun i => (ss.map fun s => (Sum.inr s : Key)).getD i (.inl 0)) ss.length) (unlike (fun i => (ss.map fun s => (Sum.inr s : Key)).getD i (.inl 0)) ss.length)) :: L) H' → Q (.ref p) H') : CallU P w K (.type "set") [v] H Q := by
  obtain ⟨a, xs, rfl, hq, ha⟩ := Dp.lst_inv h
  rw [ha.strs] at hq
  have e : ss.map V.str = (ss.map fun s => (Sum.inr s : Key)).map kV := by rw [List.map_map]; rfl
  rw [e] at hq
  have := v_setOf (P := P) (w := w) (Q := Q) S (S.sqB hq) (by rw [List.length_map]; exact hz)
  rw [List.length_map] at this
  exact this k
theorem nodup_inr {ss : List Str} (h : ss.Nodup) : (ss.map fun s => (Sum.inr s : Key)).Nodup := by
  rw [List.nodup_iff_pairwise_ne] at h ⊢
  rw [List.pairwise_map]
  exact h.imp fun hab e => hab (Sum.inr.inj e)
/-- len(set(texts)), texts unlike one another -/
theorem unlike_strs {ss : List Str} (h : ss.Nodup) : unlike (fun i => (ss.map fun s => (Sum.inr s : Key)).getD i (.inl 0)) ss.length = ss.length := by
  have := unlike_nodup (nodup_inr h) ss.length (by rw [List.length_map]; exact Nat.le_refl _)
  exact this
end
end WK

/-! a book of parts as data -/
namespace PM
open PySem L2
abbrev letters : Str := "abcdefghijklmnopqrstuvwxyz"
def isNameM (z : Str) : Bool := decide (1 ≤ (z.length : Int)) && (decide ((z.length : Int) ≤ 8) && (z.cps.toList.map fun c => decide (c ∈ letters.cps.toList)).all id)
structure PRow where
  name : Str
  needs : List (Str × Int)
  steps : List (Int × Int)
  lot : Int
  lead : Int
abbrev encNeed (x : Str × Int) : PyData := .tuple [.str x.1, .int x.2]
abbrev encStep (x : Int × Int) : PyData := .tuple [.int x.1, .int x.2]
abbrev encRow (r : PRow) : PyData := .tuple [.str r.name, .tuple (r.needs.map encNeed), .tuple (r.steps.map encStep), .int r.lot, .int r.lead]
abbrev encRest (r : PRow) : PyData := .tuple [.tuple (r.needs.map encNeed), .tuple (r.steps.map encStep), .int r.lot, .int r.lead]
/-- a row that may stand behind the names -/
structure GoodRow (names : List Str) (r : PRow) : Prop where
  nm : isNameM r.name = true
  new : r.name ∉ names
  lot : 1 ≤ r.lot ∧ r.lot ≤ 99
  lead : 0 ≤ r.lead ∧ r.lead ≤ 30
  nd : (r.needs.map (·.1)).Nodup
  known : ∀ x ∈ r.needs, x.1 ∈ names
  many : ∀ x ∈ r.needs, 1 ≤ x.2 ∧ x.2 ≤ 9
  few : r.steps.length ≤ 5
  steps : ∀ x ∈ r.steps, (0 ≤ x.1 ∧ x.1 < 6) ∧ 1 ≤ x.2 ∧ x.2 ≤ 99

theorem nodup_sub_length {α : Type} [DecidableEq α] {l l' : List α} (h : l.Nodup) (hs : ∀ x ∈ l, x ∈ l') : l.length ≤ l'.length := by
  induction l generalizing l' with
  | nil => exact Nat.zero_le _
  | cons a l ih =>
    have hn := List.nodup_cons.mp h
    have ha := hs a (List.mem_cons_self ..)
    have := ih hn.2 (l' := l'.erase a) fun x hx => (List.mem_erase_of_ne (fun e : x = a => hn.1 (by rw [← e]; exact hx))).mpr (hs x (List.mem_cons_of_mem _ hx))
    rw [List.length_erase_of_mem ha] at this
    have : 0 < l'.length := List.length_pos_of_mem ha
    simp only [List.length_cons]
    omega
/-! dicts with texts as keys -/
def getA {α : Type} (l : List (Str × α)) (s : Str) : Option α := (l.find? fun p => decide (p.1 = s)).map (·.2)
def putA {α : Type} (l : List (Str × α)) (s : Str) (v : α) : List (Str × α) := if (l.any fun p => decide (p.1 = s)) = true then l.map (fun p => if p.1 = s then (p.1, v) else p) else l ++ [(s, v)]
abbrev kvI (l : List (Str × Int)) : List (Key × V) := l.map fun p => (.inr p.1, .int p.2)
theorem valV_kvI (l : List (Str × Int)) (s : Str) : valV (kvI l) (.inr s) = (getA l s).map V.int := by
  unfold valV getA kvI
  induction l with
  | nil => rfl
  | cons p l ih =>
    rw [List.map_cons, List.find?_cons, List.find?_cons]
    by_cases h : p.1 = s
    · subst h
      simp
    · have h1 : decide (p.1 = s) = false := decide_eq_false h
      have h2 : decide ((Sum.inr p.1 : Key) = .inr s) = false := decide_eq_false fun z => h (Sum.inr.inj z)
      simp only [h1, h2]
      exact ih
theorem any_kvI (l : List (Str × Int)) (s : Str) : ((kvI l).any fun kv => decide (kv.1 = .inr s)) = (l.any fun p => decide (p.1 = s)) := by
  unfold kvI
  rw [List.any_map]
  congr 1
  funext p
  by_cases h : p.1 = s
  · subst h; simp
  · show decide ((Sum.inr p.1 : Key) = .inr s) = decide (p.1 = s)
    rw [decide_eq_false h, decide_eq_false fun z => h (Sum.inr.inj z)]
theorem putK_kvI (l : List (Str × Int)) (s : Str) (i : Int) : putK (kvI l) (.inr s) (.int i) = kvI (putA l s i) := by
  unfold putK putA
  rw [any_kvI]
  split
  · unfold kvI
    rw [List.map_map, List.map_map]
    refine List.map_congr_left fun p _ => ?_
    show (if (Sum.inr p.1 : Key) = .inr s then _ else _) = _
    by_cases h : p.1 = s
    · subst h; simp
    · rw [if_neg fun z => h (Sum.inr.inj z)]
      show _ = (Sum.inr (if p.1 = s then (p.1, i) else p).1, V.int (if p.1 = s then (p.1, i) else p).2)
      rw [if_neg h]
  · unfold kvI
    rw [List.map_append]
    rfl
theorem getA_isSome {α : Type} (l : List (Str × α)) (s : Str) : (getA l s).isSome = true ↔ s ∈ l.map (·.1) := by
  unfold getA
  rw [Option.isSome_map, List.find?_isSome]
  simp only [decide_eq_true_eq, List.mem_map]
theorem putA_keys {α : Type} (l : List (Str × α)) (s : Str) (v : α) (h : s ∈ l.map (·.1)) : (putA l s v).map (·.1) = l.map (·.1) := by
  unfold putA
  rw [if_pos]
  · rw [List.map_map]
    refine List.map_congr_left fun p _ => ?_
    show (if p.1 = s then (p.1, v) else p).1 = p.1
    split <;> rfl
  · rw [List.any_eq_true]
    obtain ⟨p, hp, e⟩ := List.mem_map.mp h
    exact ⟨p, hp, decide_eq_true e⟩
theorem putA_new {α : Type} (l : List (Str × α)) (s : Str) (v : α) (h : s ∉ l.map (·.1)) : putA l s v = l ++ [(s, v)] := by
  unfold putA
  rw [if_neg]
  intro z
  rw [List.any_eq_true] at z
  obtain ⟨p, hp, e⟩ := z
  exact h (List.mem_map.mpr ⟨p, hp, of_decide_eq_true e⟩)
def addA (l : List (Str × Int)) (s : Str) (i : Int) : List (Str × Int) := putA l s ((getA l s).getD 0 + i)
/-- what some needs lead to, by what those ahead lead to -/
def addAll (m : Int) (f : List (Str × Int)) (more : List (Str × Int)) : List (Str × Int) := more.foldl (fun f p => addA f p.1 (m * p.2)) f
def needStep (ls : List (Str × List (Str × Int))) (f : List (Str × Int)) (p : Str × Int) : List (Str × Int) := addAll p.2 (addA f p.1 p.2) ((getA ls p.1).getD [])
def ledRaw (names : List Str) (ls : List (Str × List (Str × Int))) (needs : List (Str × Int)) : List (Str × Int) := needs.foldl (needStep ls) (names.map fun s => (s, 0))
def ledTo (names : List Str) (ls : List (Str × List (Str × Int))) (needs : List (Str × Int)) : List (Str × Int) := (ledRaw names ls needs).filter fun p => decide (0 < p.2)
/-- what each part of a book leads to -/
def ledStep (ls : List (Str × List (Str × Int))) (r : PRow) : List (Str × List (Str × Int)) := ls ++ [(r.name, ledTo (ls.map (·.1) ++ [r.name]) ls r.needs)]
def ledOf (rs : List PRow) : List (Str × List (Str × Int)) := rs.foldl ledStep []
theorem ledOf_snoc (rs : List PRow) (r : PRow) : ledOf (rs ++ [r]) = ledStep (ledOf rs) r := by
  unfold ledOf
  rw [List.foldl_append]
  rfl
theorem ledOf_names (rs : List PRow) : (ledOf rs).map (·.1) = rs.map (·.name) := by
  suffices h : ∀ (rs : List PRow) (ls : List (Str × List (Str × Int))), (rs.foldl ledStep ls).map (·.1) = ls.map (·.1) ++ rs.map (·.name) from h rs []
  intro rs
  induction rs with
  | nil => intro ls; simp
  | cons r rs ih =>
    intro ls
    rw [List.foldl_cons, ih]
    simp [ledStep]
/-- a book that can be -/
structure GoodBook (rs : List PRow) : Prop where
  len : rs.length ≤ 12
  row : ∀ i r, rs[i]? = some r → GoodRow ((rs.take i).map (·.name)) r
  led : ∀ p ∈ ledOf rs, (p.2.map (·.2)).sum ≤ 200
end PM

/-! books of parts in the heap -/
namespace PM
open PySem PySem.Spec PyProof.Rows L2 WK
section
variable {K : PySem.W.Frag} {σ : L2.St} {H B : Hp} {F : Ent} {L : Led} {gs : TGs} {v : V} {QG : L2.St → Hp → Prop}
theorem r_gtupRow {r : PRow} (S : Ok F B L H) (h : Dp K B v (encRow r)) (k : ∀ v2 v3, Dp K B v2 (.tuple (r.needs.map encNeed)) → Dp K B v3 (.tuple (r.steps.map encStep)) → gs [.str r.name, v2, v3, .int r.lot, .int r.lead] σ H QG) : gTup K 5 gs v σ H QG :=
  r_gtupD S h rfl fun vs ha => by
    obtain ⟨v1, _, rfl, h1, ha⟩ := ha.cons_inv
    obtain ⟨v2, _, rfl, h2, ha⟩ := ha.cons_inv
    obtain ⟨v3, _, rfl, h3, ha⟩ := ha.cons_inv
    obtain ⟨v4, _, rfl, h4, ha⟩ := ha.cons_inv
    obtain ⟨v5, _, rfl, h5, ha⟩ := ha.cons_inv
    obtain rfl := ha.nil_inv
    obtain rfl := h1.str_inv
    obtain rfl := h4.int_inv
    obtain rfl := h5.int_inv
    exact k v2 v3 h2 h3
end
/-- what the parts lead to: frozen dicts -/
inductive LedKV (B : Hp) : List (Key × V) → List (Str × List (Str × Int)) → Prop
  | nil : LedKV B [] []
  | cons {s d od m kvs ls} : B d = some (.frz od (.dK (kvI m))) → LedKV B kvs ls → LedKV B ((.inr s, .ref d) :: kvs) ((s, m) :: ls)
inductive RowKV (K : PySem.W.Frag) (B : Hp) : List (Key × V) → List PRow → Prop
  | nil : RowKV K B [] []
  | cons {v r kvs rs} : Dp K B v (encRest r) → RowKV K B kvs rs → RowKV K B ((.inr r.name, v) :: kvs) (r :: rs)
section
variable {K : PySem.W.Frag} {B B' : Hp} {kvs : List (Key × V)} {ls : List (Str × List (Str × Int))} {rs : List PRow}
theorem LedKV.up (e : Ex B B') (h : LedKV B kvs ls) : LedKV B' kvs ls := by
  induction h with
  | nil => exact .nil
  | cons h _ ih => exact .cons (e _ _ h) ih
theorem RowKV.up (e : Ex B B') (h : RowKV K B kvs rs) : RowKV K B' kvs rs := by
  induction h with
  | nil => exact .nil
  | cons h _ ih => exact .cons (h.up e) ih
theorem LedKV.keys (h : LedKV B kvs ls) : kvs.map (·.1) = ls.map fun p => .inr p.1 := by
  induction h with
  | nil => rfl
  | cons _ _ ih => simp [ih]
theorem RowKV.keys (h : RowKV K B kvs rs) : kvs.map (·.1) = (rs.map (·.name)).map Sum.inr := by
  induction h with
  | nil => rfl
  | cons _ _ ih => simp only [List.map_cons, ih]
theorem LedKV.snoc {s : Str} {d : Addr} {od : Obj} {m : List (Str × Int)} (h : LedKV B kvs ls) (hd : B d = some (.frz od (.dK (kvI m)))) : LedKV B (kvs ++ [(.inr s, .ref d)]) (ls ++ [(s, m)]) := by
  induction h with
  | nil => exact .cons hd .nil
  | cons h _ ih => exact .cons h ih
theorem RowKV.snoc {v : V} {r : PRow} (h : RowKV K B kvs rs) (hv : Dp K B v (encRest r)) : RowKV K B (kvs ++ [(.inr r.name, v)]) (rs ++ [r]) := by
  induction h with
  | nil => exact .cons hv .nil
  | cons h _ ih => exact .cons h ih
theorem LedKV.get {s : Str} {m : List (Str × Int)} (h : LedKV B kvs ls) (e : getA ls s = some m) : ∃ d od, valV kvs (.inr s) = some (.ref d) ∧ B d = some (.frz od (.dK (kvI m))) := by
  induction h with
  | nil => cases e
  | @cons s' d od m' kvs ls hd _ ih =>
    by_cases hs : s' = s
    · subst hs
      have : m' = m := by
        unfold getA at e
        rw [List.find?_cons] at e
        simpa using e
      subst this
      exact ⟨d, od, valV_pos rfl, hd⟩
    · have : getA ls s = some m := by
        unfold getA at e ⊢
        rw [List.find?_cons, show decide ((s', m').1 = s) = false from decide_eq_false hs] at e
        exact e
      obtain ⟨d, od, e1, e2⟩ := ih this
      exact ⟨d, od, by rw [valV_neg (fun z => hs (Sum.inr.inj z))]; exact e1, e2⟩
end
/-! the sums keep their keys -/
theorem addA_keys {f : List (Str × Int)} {s : Str} {i : Int} (h : s ∈ f.map (·.1)) : (addA f s i).map (·.1) = f.map (·.1) := putA_keys f s _ h
theorem addAll_keys {m : Int} {f more : List (Str × Int)} (h : ∀ y ∈ more, y.1 ∈ f.map (·.1)) : (addAll m f more).map (·.1) = f.map (·.1) := by
  unfold addAll
  induction more generalizing f with
  | nil => rfl
  | cons y more ih =>
    rw [List.foldl_cons, ih (f := addA f y.1 (m * y.2))]
    · exact addA_keys (h y (List.mem_cons_self ..))
    · intro z hz
      rw [addA_keys (h y (List.mem_cons_self ..))]
      exact h z (List.mem_cons_of_mem _ hz)
theorem getA_of_mem {α : Type} {l : List (Str × α)} {s : Str} (h : s ∈ l.map (·.1)) : ∃ v, getA l s = some v := Option.isSome_iff_exists.mp ((getA_isSome l s).mpr h)
theorem needStep_keys {ls : List (Str × List (Str × Int))} {f : List (Str × Int)} {p : Str × Int} (h : p.1 ∈ f.map (·.1)) (hm : ∀ m, getA ls p.1 = some m → ∀ y ∈ m, y.1 ∈ f.map (·.1)) : (needStep ls f p).map (·.1) = f.map (·.1) := by
  unfold needStep
  rw [addAll_keys, addA_keys h]
  intro y hy
  rw [addA_keys h]
  cases e : getA ls p.1 with
  | none => rw [e] at hy; cases hy
  | some m => rw [e] at hy; exact hm m e y hy
theorem needs_keys {ls : List (Str × List (Str × Int))} {f : List (Str × Int)} {ps : List (Str × Int)} (h : ∀ p ∈ ps, p.1 ∈ f.map (·.1)) (hm : ∀ p ∈ ps, ∀ m, getA ls p.1 = some m → ∀ y ∈ m, y.1 ∈ f.map (·.1)) : (ps.foldl (needStep ls) f).map (·.1) = f.map (·.1) := by
  induction ps generalizing f with
  | nil => rfl
  | cons p ps ih =>
    have h1 := needStep_keys (h p (List.mem_cons_self ..)) (hm p (List.mem_cons_self ..))
    rw [List.foldl_cons, ih, h1]
    · intro q hq; rw [h1]; exact h q (List.mem_cons_of_mem _ hq)
    · intro q hq m e y hy; rw [h1]; exact hm q (List.mem_cons_of_mem _ hq) m e y hy
theorem kvI_get {m : List (Str × Int)} {j : Nat} {kv : Key × V} (h : (kvI m)[j]? = some kv) : ∃ y, m[j]? = some y ∧ kv = (.inr y.1, .int y.2) := by
  unfold kvI at h
  rw [List.getElem?_map] at h
  cases e : m[j]? with
  | none => rw [e] at h; cases h
  | some y => rw [e] at h; exact ⟨y, rfl, (Option.some.inj h).symm⟩
theorem foldl_take_succ {α β : Type} {g : β → α → β} {b : β} {l : List α} {i : Nat} {x : α} (h : l[i]? = some x) : (l.take (i + 1)).foldl g b = g ((l.take i).foldl g b) x := by
  rw [List.take_add_one, h, List.foldl_append]; rfl
theorem kvI_keys (m : List (Str × Int)) : (kvI m).map (·.1) = (m.map (·.1)).map Sum.inr := by
  unfold kvI
  rw [List.map_map, List.map_map]; rfl
/-- a dict's row by its number -/
def vInt (c : Int → Bool) (kv : Key × V) : Bool := match kv.2 with | .int i => c i | _ => false
theorem kvI_filter (m : List (Str × Int)) (c : Int → Bool) : (kvI m).filter (vInt c) = kvI (m.filter fun p => c p.2) := by
  unfold kvI
  rw [List.filter_map]; rfl
abbrev fldsP (r l : Addr) : List (Str × V) := [("rows", .ref r), ("led", .ref l)]
theorem getA_mem {α : Type} {l : List (Str × α)} {s : Str} {v : α} (h : getA l s = some v) : (s, v) ∈ l := by
  unfold getA at h
  obtain ⟨p, hp, e⟩ := Option.map_eq_some_iff.mp h
  have h1 := List.mem_of_find?_eq_some hp
  have h2 := List.find?_some hp
  have : p.1 = s := of_decide_eq_true h2
  rw [← this, ← e]
  exact h1
theorem ledOf_take {rs : List PRow} {i : Nat} {r : PRow} (h : rs[i]? = some r) : ledOf (rs.take (i + 1)) = ledStep (ledOf (rs.take i)) r := foldl_take_succ h
theorem ledRaw_keys {names : List Str} {ls : List (Str × List (Str × Int))} {needs : List (Str × Int)} (h : ∀ x ∈ needs, x.1 ∈ names ∧ ∀ m, getA ls x.1 = some m → ∀ y ∈ m, y.1 ∈ names) : (ledRaw names ls needs).map (·.1) = names := by
  have e0 : (names.map fun s => ((s, 0) : Str × Int)).map (·.1) = names := by rw [List.map_map]; exact List.map_id' _
  unfold ledRaw
  rw [needs_keys, e0]
  · intro y hy; rw [e0]; exact (h y hy).1
  · intro y hy m em z hz; rw [e0]; exact (h y hy).2 m em z hz
theorem ledTo_in {names : List Str} {ls : List (Str × List (Str × Int))} {needs : List (Str × Int)} (h : ∀ x ∈ needs, x.1 ∈ names ∧ ∀ m, getA ls x.1 = some m → ∀ y ∈ m, y.1 ∈ names) : ∀ y ∈ ledTo names ls needs, y.1 ∈ names := by
  intro y hy
  rw [← ledRaw_keys h]
  exact List.mem_map.mpr ⟨y, (List.mem_filter.mp hy).1, rfl⟩
section
variable {rs : List PRow}
theorem take_succ_map {i : Nat} {r : PRow} (h : rs[i]? = some r) : (rs.take (i + 1)).map (·.name) = (rs.take i).map (·.name) ++ [r.name] := by
  rw [List.take_add_one, h, List.map_append]; rfl
theorem GoodBook.nodup (G : GoodBook rs) (i : Nat) : ((rs.take i).map (·.name)).Nodup := by
  induction i with
  | zero => exact List.nodup_nil
  | succ i ih =>
    cases e : rs[i]? with
    | none =>
      have : rs.length ≤ i := List.getElem?_eq_none_iff.mp e
      rw [List.take_of_length_le (by omega)]
      rw [List.take_of_length_le this] at ih
      exact ih
    | some r =>
      rw [take_succ_map e]
      refine List.nodup_append.mpr ⟨ih, List.nodup_cons.mpr ⟨(by simp), List.nodup_nil⟩, ?_⟩
      intro a ha b hb hab
      rw [List.mem_singleton] at hb
      subst hb hab
      exact (G.row i r e).new ha
theorem GoodBook.known (G : GoodBook rs) (i : Nat) : ∀ p ∈ ledOf (rs.take i), ∀ y ∈ p.2, y.1 ∈ (rs.take i).map (·.name) := by
  induction i with
  | zero => intro p hp; cases hp
  | succ i ih =>
    cases e : rs[i]? with
    | none =>
      have : rs.length ≤ i := List.getElem?_eq_none_iff.mp e
      rw [List.take_of_length_le (show rs.length ≤ i + 1 by omega)]
      rw [List.take_of_length_le this] at ih
      exact ih
    | some r =>
      rw [take_succ_map e, ledOf_take e]
      intro p hp y hy
      rcases List.mem_append.mp hp with hp | hp
      · exact List.mem_append_left _ (ih p hp y hy)
      · rw [List.mem_singleton] at hp
        subst hp
        rw [← ledOf_names]
        refine ledTo_in (fun x hx => ⟨?_, fun m hm z hz => ?_⟩) y hy
        · rw [ledOf_names]; exact List.mem_append_left _ ((G.row i r e).known x hx)
        · rw [ledOf_names]; exact List.mem_append_left _ (ih _ (getA_mem hm) z hz)
theorem GoodBook.needs (G : GoodBook rs) {i : Nat} {r : PRow} (e : rs[i]? = some r) : ∀ x ∈ r.needs, x.1 ∈ (rs.take i).map (·.name) ++ [r.name] ∧ (1 ≤ x.2 ∧ x.2 ≤ 9) ∧ ∃ m, getA (ledOf (rs.take i)) x.1 = some m ∧ ∀ y ∈ m, y.1 ∈ (rs.take i).map (·.name) ++ [r.name] := by
  intro x hx
  have R := G.row i r e
  obtain ⟨m, hm⟩ := getA_of_mem (l := ledOf (rs.take i)) (s := x.1) (by rw [ledOf_names]; exact R.known x hx)
  exact ⟨List.mem_append_left _ (R.known x hx), R.many x hx, m, hm, fun y hy => List.mem_append_left _ (G.known i _ (getA_mem hm) y hy)⟩
theorem ledOf_sub (i : Nat) : ∀ p ∈ ledOf (rs.take i), p ∈ ledOf rs := by
  suffices h : ∀ (xs : List PRow) (ls : List (Str × List (Str × Int))), ∀ p ∈ ls, p ∈ xs.foldl ledStep ls by
    intro p hp
    have := h (rs.drop i) (ledOf (rs.take i)) p hp
    unfold ledOf at this ⊢
    rw [← List.foldl_append, List.take_append_drop] at this
    exact this
  intro xs
  induction xs with
  | nil => intro ls p hp; exact hp
  | cons r xs ih => intro ls p hp; exact ih _ p (List.mem_append_left _ hp)
end
theorem kvI_vals (m : List (Str × Int)) : (kvI m).map (·.2) = (m.map (·.2)).map V.int := by
  unfold kvI
  rw [List.map_map, List.map_map]; rfl
theorem zipIdx_at {α : Type} {l : List α} {i : Nat} {y : α × Nat} (h : l.zipIdx[i]? = some y) : l[i]? = some y.1 ∧ y.2 = i := by
  rw [List.getElem?_zipIdx] at h
  cases e : l[i]? with
  | none => rw [e] at h; cases h
  | some x =>
    rw [e] at h
    have := Option.some.inj h
    subst this
    exact ⟨rfl, by simp⟩
theorem ledTo_sub {names : List Str} {ls : List (Str × List (Str × Int))} {needs : List (Str × Int)} (h : ∀ x ∈ needs, x.1 ∈ names ∧ ∀ m, getA ls x.1 = some m → ∀ y ∈ m, y.1 ∈ names) : ((ledTo names ls needs).map (·.1)).Sublist names := by
  have h1 : ((ledTo names ls needs).map (·.1)).Sublist ((ledRaw names ls needs).map (·.1)) := List.filter_sublist.map _
  rw [ledRaw_keys h] at h1
  exact h1
theorem GoodBook.led_sub {rs : List PRow} (G : GoodBook rs) (i : Nat) : ∀ p ∈ ledOf (rs.take i), (p.2.map (·.1)).Sublist ((rs.take i).map (·.name)) := by
  induction i with
  | zero => intro p hp; cases hp
  | succ i ih =>
    cases e : rs[i]? with
    | none =>
      have : rs.length ≤ i := List.getElem?_eq_none_iff.mp e
      rw [List.take_of_length_le (show rs.length ≤ i + 1 by omega)]
      rw [List.take_of_length_le this] at ih
      exact ih
    | some r =>
      rw [take_succ_map e, ledOf_take e]
      intro p hp
      rcases List.mem_append.mp hp with hp | hp
      · exact (ih p hp).trans (List.sublist_append_left _ _)
      · rw [List.mem_singleton] at hp
        subst hp
        have := ledTo_sub (names := (ledOf (rs.take i)).map (·.1) ++ [r.name]) (ls := ledOf (rs.take i)) (needs := r.needs) (fun x hx => ⟨by rw [ledOf_names]; exact List.mem_append_left _ ((G.row i r e).known x hx), fun m hm z hz => by rw [ledOf_names]; exact List.mem_append_left _ (G.known i _ (getA_mem hm) z hz)⟩)
        rw [ledOf_names] at this
        rw [ledOf_names]
        exact this
theorem GoodBook.led_all {rs : List PRow} (G : GoodBook rs) : ∀ p ∈ ledOf rs, (p.2.map (·.1)).Sublist (rs.map (·.name)) := by
  have := G.led_sub rs.length
  rw [List.take_length] at this
  exact this
end PM

/-! a floor, plainly -/
namespace PM
open PySem L2 WK
inductive Hold where
  | lot (j : Nat) (m : Int)
  | pc (k : Nat)
  deriving DecidableEq
structure Lt where
  part : Str
  left : Int
  price : Int
structure Pc where
  part : Str
  state : Str
  at_ : Int
  cost : Int
  holds : List Hold
  above : Option Nat
  client : Option Int
  own : Int
inductive Deed where
  | buy (p : Str) (m pr : Int)
  | begin_ (p : Str)
  | work (k : Int)
  | test (k : Int) (g : Bool)
  | rework (k a : Int)
  | swap (k o n : Int)
  | scrap (k : Int)
  | strip (k : Int)
  | sell (k c : Int)
  | back (k : Int)
def encDeed : Deed → PyData
  | .buy p m pr => .tuple [.str "buy", .str p, .int m, .int pr]
  | .begin_ p => .tuple [.str "begin", .str p]
  | .work k => .tuple [.str "work", .int k]
  | .test k g => .tuple [.str "test", .int k, .bool g]
  | .rework k a => .tuple [.str "rework", .int k, .int a]
  | .swap k o n => .tuple [.str "swap", .int k, .int o, .int n]
  | .scrap k => .tuple [.str "scrap", .int k]
  | .strip k => .tuple [.str "strip", .int k]
  | .sell k c => .tuple [.str "sell", .int k, .int c]
  | .back k => .tuple [.str "back", .int k]
structure Fl where
  rs : List PRow
  rates : List Int
  lots : List Lt
  pcs : List Pc
  book : List Deed
  spent : Int
  lost : Int
abbrev sMaking : Str := "making"
abbrev sMade : Str := "made"
abbrev sBad : Str := "bad"
abbrev sStock : Str := "stock"
abbrev sWithin : Str := "within"
abbrev sSold : Str := "sold"
abbrev sScrap : Str := "scrap"
abbrev sStripped : Str := "stripped"
/-- a part's row -/
def rowOf (rs : List PRow) (z : Str) : Option PRow := rs.find? fun r => decide (r.name = z)
def lotsOf (hs : List Hold) : List (Nat × Int) := hs.filterMap fun h => match h with | .lot j m => some (j, m) | .pc _ => none
def pcsOf (hs : List Hold) : List Nat := hs.filterMap fun h => match h with | .lot _ _ => none | .pc k => some k
theorem lotsOf_app (a b : List Hold) : lotsOf (a ++ b) = lotsOf a ++ lotsOf b := List.filterMap_append
theorem pcsOf_app (a b : List Hold) : pcsOf (a ++ b) = pcsOf a ++ pcsOf b := List.filterMap_append
/-- a floor at its beginning -/
def Fl.new (rs : List PRow) (rates : List Int) : Fl := ⟨rs, rates, [], [], [], 0, 0⟩
def Fl.buy (fs : Fl) (z : Str) (m pr : Int) : Fl := { fs with lots := fs.lots ++ [⟨z, m, pr⟩], spent := fs.spent + m * pr, book := fs.book ++ [.buy z m pr] }
def Pc.work (p : Pc) (c : Int) (n : Nat) : Pc := { p with at_ := p.at_ + 1, cost := p.cost + c, own := p.own + c, state := if p.at_ + 1 = (n : Int) then "made" else p.state }
def Fl.work (fs : Fl) (k : Nat) (p : Pc) (c : Int) (n : Nat) : Fl := { fs with pcs := fs.pcs.set k (p.work c n), spent := fs.spent + c, book := fs.book ++ [.work k] }
/-- a piece becomes another, which is noted -/
def Fl.put (fs : Fl) (k : Nat) (p : Pc) (d : Deed) : Fl := { fs with pcs := fs.pcs.set k p, book := fs.book ++ [d] }
theorem rowOf_mem {rs : List PRow} {z : Str} {r : PRow} (h : PM.rowOf rs z = some r) : r ∈ rs ∧ r.name = z := by
  unfold PM.rowOf at h
  exact ⟨List.mem_of_find?_eq_some h, by simpa using List.find?_some h⟩
end PM
namespace PM
open PySem L2 WK
def takeStep (z : Str) (acc : List (Nat × Int) × Int) (x : Lt × Nat) : List (Nat × Int) × Int :=
  if x.1.part = z ∧ 0 < x.1.left ∧ 0 < acc.2 then (acc.1 ++ [(x.2, if acc.2 < x.1.left then acc.2 else x.1.left)], acc.2 - (if acc.2 < x.1.left then acc.2 else x.1.left)) else acc
/-- the eldest lots of a part, so many; what is left to take -/
def takeLots (lots : List Lt) (z : Str) (m : Int) : List (Nat × Int) × Int := lots.zipIdx.foldl (takeStep z) ([], m)
/-- the pieces of a part in stock -/
def stockOf (pcs : List Pc) (z : Str) : List Nat := (pcs.zipIdx.filter fun x => decide (x.1.part = z) && decide (x.1.state = sStock)).map (·.2)
/-- what a piece takes -/
def Fl.give (fs : Fl) (k0 : Nat) : Hold → Fl
  | .pc k1 => match fs.pcs[k1]?, fs.pcs[k0]? with
    | some q, some p => { fs with pcs := (fs.pcs.set k1 { q with state := "within", above := some k0 }).set k0 { p with holds := p.holds ++ [.pc k1], cost := p.cost + q.cost } }
    | _, _ => fs
  | .lot j m => match fs.lots[j]?, fs.pcs[k0]? with
    | some x, some p => { fs with lots := fs.lots.set j { x with left := x.left - m }, pcs := fs.pcs.set k0 { p with holds := p.holds ++ [.lot j m], cost := p.cost + m * x.price } }
    | _, _ => fs
end PM
namespace PM
abbrev newPc (z : PySem.Str) : Pc := ⟨z, "making", 0, 0, [], none, none, 0⟩
end PM

namespace WK
open PySem PySem.Spec PyProof.Rows L2 PM
/-! the cells of a floor -/
structure ALot where
  a : Addr
  dx : Addr
  s : Lt
structure APc where
  a : Addr
  dx : Addr
  l : Addr
  p : Addr
  s : Pc
structure AFl where
  f : Addr
  dx : Addr
  bk : Addr
  la : Addr
  pa : Addr
  na : Addr
  rt : V
  nv : List V
  rs : List PRow
  rates : List Int
  lots : List ALot
  pcs : List APc
  book : List Deed
  spent : Int
  lost : Int
def AFl.st (A : AFl) : Fl := ⟨A.rs, A.rates, A.lots.map (·.s), A.pcs.map (·.s), A.book, A.spent, A.lost⟩
def optN : Option Nat → V
  | none => .non
  | some k => .int (k : Nat)
def optI : Option Int → V
  | none => .non
  | some k => .int k
abbrev flF (A : AFl) : List (Str × V) := [("book", .ref A.bk), ("rates", A.rt), ("lots", .ref A.la), ("pieces", .ref A.pa), ("notes", .ref A.na), ("spent", .int A.spent), ("lost", .int A.lost)]
abbrev ltF (s : Lt) : List (Str × V) := [("part", .str s.part), ("left", .int s.left), ("price", .int s.price)]
abbrev pcF (P : APc) : List (Str × V) := [("part", .str P.s.part), ("state", .str P.s.state), ("at", .int P.s.at_), ("cost", .int P.s.cost), ("lots", .ref P.l), ("pieces", .ref P.p), ("above", optN P.s.above), ("client", optI P.s.client)]
def lotKV (hs : List Hold) : List (Key × V) := (lotsOf hs).map fun x => (.inl (x.1 : Int), .int x.2)
def pcV (hs : List Hold) : List V := (pcsOf hs).map fun (k : Nat) => V.int (k : Int)
abbrev lotC (CL : Addr) (x : ALot) : Addr × HO := (x.a, .ins CL x.dx (ltF x.s))
abbrev pcI (CI : Addr) (P : APc) : Addr × HO := (P.a, .ins CI P.dx (pcF P))
abbrev pcL (P : APc) : Addr × HO := (P.l, .dK (lotKV P.s.holds))
abbrev pcP (P : APc) : Addr × HO := (P.p, .lst (pcV P.s.holds))
def pcC (CI : Addr) (P : APc) : Led := [pcI CI P, pcL P, pcP P]
def FL (CF CL CI : Addr) (A : AFl) : Led :=
  (A.f, .ins CF A.dx (flF A)) :: (A.la, .lst (A.lots.map fun x => .ref x.a)) :: (A.pa, .lst (A.pcs.map fun P => .ref P.a)) :: (A.na, .lst A.nv) :: (A.lots.map (lotC CL) ++ A.pcs.flatMap (pcC CI))
/-- the book of a floor -/
def BookAt (K : PySem.W.Frag) (CP : Addr) (B : Hp) (p : Addr) (rs : List PRow) : Prop := ∃ dx a l rkv lkv, B p = some (.ins CP dx (fldsP a l)) ∧ B a = some (.dK rkv) ∧ B l = some (.dK lkv) ∧ RowKV K B rkv rs ∧ LedKV B lkv (ledOf rs)
theorem BookAt.up {K : PySem.W.Frag} {CP : Addr} {B B' : Hp} {p : Addr} {rs : List PRow} (e : Ex B B') (h : BookAt K CP B p rs) : BookAt K CP B' p rs := by
  obtain ⟨dx, a, l, rkv, lkv, h1, h2, h3, h4, h5⟩ := h
  exact ⟨dx, a, l, rkv, lkv, e _ _ h1, e _ _ h2, e _ _ h3, h4.up e, h5.up e⟩
structure FB (K : PySem.W.Frag) (CP : Addr) (B : Hp) (A : AFl) : Prop where
  book : BookAt K CP B A.bk A.rs
  rates : Dp K B A.rt (.tuple (A.rates.map .int))
  notes : DpAll K B A.nv (A.book.map encDeed)
  good : GoodBook A.rs
  six : A.rates.length = 6
  few : A.lots.length + A.pcs.length ≤ A.book.length
theorem FB.up {K : PySem.W.Frag} {CP : Addr} {B B' : Hp} {A : AFl} (e : Ex B B') (h : FB K CP B A) : FB K CP B' A := ⟨h.book.up e, h.rates.up e, h.notes.up e, h.good, h.six, h.few⟩
/-- what the text says of the classes -/
structure FlK (K : PySem.W.Frag) (CP CF CL CI : Addr) : Prop where
  cP : Cls K CP
  cF : Cls K CF
  cL : Cls K CL
  cI : Cls K CI
  a1 : NoAttr K CP "rows"
  a2 : NoAttr K CP "led"
  b1 : NoAttr K CF "book"
  b2 : NoAttr K CF "rates"
  b3 : NoAttr K CF "lots"
  b4 : NoAttr K CF "pieces"
  b5 : NoAttr K CF "notes"
  b6 : NoAttr K CF "spent"
  b7 : NoAttr K CF "lost"
  c1 : NoAttr K CL "part"
  c2 : NoAttr K CL "left"
  c3 : NoAttr K CL "price"
  d1 : NoAttr K CI "part"
  d2 : NoAttr K CI "state"
  d3 : NoAttr K CI "at"
  d4 : NoAttr K CI "cost"
  d5 : NoAttr K CI "lots"
  d6 : NoAttr K CI "pieces"
  d7 : NoAttr K CI "above"
  d8 : NoAttr K CI "client"
section
variable {F : Ent} {B H : Hp} {L : Led} {CF CL CI : Addr} {A : AFl} {P : APc} {x : ALot} {k j : Nat}
theorem Ok.flF (S : Ok F B (FL CF CL CI A ++ L) H) : H A.f = some (.ins CF A.dx (flF A)) := S.mem (.head _)
theorem mem_lot (h : A.lots[j]? = some x) : lotC CL x ∈ FL CF CL CI A ++ L := by
  refine List.mem_append_left _ ?_
  exact .tail _ (.tail _ (.tail _ (.tail _ (List.mem_append_left _ (List.mem_map.mpr ⟨x, List.mem_of_getElem? h, rfl⟩)))))
theorem mem_pc {q : Addr × HO} (h : A.pcs[k]? = some P) (hq : q ∈ pcC CI P) : q ∈ FL CF CL CI A ++ L := by
  refine List.mem_append_left _ ?_
  exact .tail _ (.tail _ (.tail _ (.tail _ (List.mem_append_right _ (List.mem_flatMap.mpr ⟨P, List.mem_of_getElem? h, hq⟩)))))
theorem at_split {α : Type} {l : List α} {k : Nat} {x : α} (h : l[k]? = some x) : ∃ l1 l2, l = l1 ++ x :: l2 ∧ l1.length = k ∧ ∀ y, l.set k y = l1 ++ y :: l2 := by
  obtain ⟨hk, e⟩ := List.getElem?_eq_some_iff.mp h
  refine ⟨l.take k, l.drop (k + 1), ?_, by rw [List.length_take]; omega, fun y => ?_⟩
  · rw [← e, List.getElem_cons_drop, List.take_append_drop]
  · rw [List.set_eq_take_append_cons_drop, if_pos hk]
end
end WK

namespace WK
open PySem PySem.Spec PyProof.Rows L2 PM
/-! attributes as targets -/
def gAtt (K : PySem.W.Frag) (to : TE) (f : Str) : TG := fun v σ H Q => to σ H fun x H2 => ∃ a C dx fs, x = .ref a ∧ H2 a = some (.ins C dx fs) ∧ Cls K C ∧ NoAttr K C f ∧ fs.length < 1000 ∧ Q σ (upd H2 a (.ins C dx (putF f v fs)))
def AttQ (K : PySem.W.Frag) (f : Str) (y : V) (σ : L2.St) (Q : L2.St → Hp → Prop) : VK := fun x H2 => ∃ a C dx fs, x = .ref a ∧ H2 a = some (.ins C dx fs) ∧ Cls K C ∧ NoAttr K C f ∧ fs.length < 1000 ∧ Q σ (upd H2 a (.ins C dx (putF f y fs)))
theorem r_gatt {K : PySem.W.Frag} {σ : L2.St} {H : Hp} {to : TE} {f : Str} {v : V} {Q : L2.St → Hp → Prop} (k : to σ H (AttQ K f v σ Q)) : gAtt K to f v σ H Q := k
theorem ps_fldK (K : PySem.W.Frag) {X : Cx} {o value : Expr} {f : Str} {pos pos' : Pos} {ta tv : TE} (ha : PE X o ta) (hv : PE X value tv) (hs : swapsWith value (some (.Attribute o f pos')) pos.line X.env = pure false) (hK : X.K = K := by rfl) : PS X (.Assign [.Attribute o f pos'] value pos) (sFld K ta tv f) := by
  subst hK
  exact ps_fld ha hv hs
/-! o.f op= e -/
def AfQ (a C : Addr) (f : Str) (D : Ends) (σ : L2.St) : VK := fun z H3 => ∃ dx' fs', H3 a = some (.ins C dx' fs') ∧ fs'.length < 1000 ∧ D.nx σ (upd H3 a (.ins C dx' (putF f z fs')))
section
variable {K : PySem.W.Frag} {σ : L2.St} {H : Hp} {tv : TE} {f : Str} {Q : VK} {D : Ends} {a C dx : Addr} {fs : List (Str × V)} {v z : V} {rd : V → V → Hp → VK → Prop}
theorem afdQ (h : H a = some (.ins C dx fs)) (c : Cls K C) (n : NoAttr K C f) (l : fs.lookup f = some v) (k : tv σ H fun y H2 => rd v y H2 (AfQ a C f D σ)) : AFdQ K f rd tv D σ (.ref a) H := ⟨a, C, dx, fs, v, rfl, h, c, n, l, k⟩
theorem r_rAdd {i j : Int} (k : Q (.int (i + j)) H) : rAdd (.int i) (.int j) H Q := ⟨i, j, rfl, rfl, k⟩
theorem r_rSub {i j : Int} (k : Q (.int (i - j)) H) : rSub (.int i) (.int j) H Q := ⟨i, j, rfl, rfl, k⟩
end
def Pr3Q (Q : V → V → V → Hp → Prop) (vs : List V) (H : Hp) : Prop := ∃ v w u, vs = [v, w, u] ∧ Q v w u H
theorem r_par3 {i j l : Nat} {tas : TA} {σ : L2.St} {H : Hp} {D : Ends} (k : tas σ H (Pr3Q fun u v w H1 => D.nx (((σ.set i (some u)).set j (some v)).set l (some w)) H1)) : tPar3 i j l tas D σ H := k
theorem r_par33 {Q : V → V → V → Hp → Prop} {v w u : V} {H : Hp} (k : Q v w u H) : Pr3Q Q [v, w, u] H := ⟨v, w, u, rfl, k⟩
/-! in a floor -/
section
variable {K : PySem.W.Frag} {σ : L2.St} {D : Ends} {Qg : L2.St → Hp → Prop} {F : Ent} {B H : Hp} {L : Led} {CF CL CI : Addr} {A A' : AFl} {P : APc} {x : ALot} {k j : Nat} {f : Str} {y : V}
theorem Ok.under (L0 : Led) {H' : Hp} (S : Ok F B (L0 ++ (FL CF CL CI A ++ L)) H) (h : ∀ L, Ok F B (FL CF CL CI A ++ L) H → Ok F B (FL CF CL CI A' ++ L) H') : Ok F B (L0 ++ (FL CF CL CI A' ++ L)) H' := by
  have p : ∀ X : Led, (L0 ++ (X ++ L)).Perm (X ++ (L0 ++ L)) := fun X => by
    rw [← List.append_assoc, ← List.append_assoc]
    exact List.Perm.append_right _ List.perm_append_comm
  exact (h _ (S.perm (p _))).perm (p _).symm
/-! membership, for reading -/
theorem mF : (A.f, HO.ins CF A.dx (flF A)) ∈ FL CF CL CI A ++ L := .head _
theorem mFl : (A.la, HO.lst (A.lots.map fun x => .ref x.a)) ∈ FL CF CL CI A ++ L := .tail _ (.head _)
theorem mFp : (A.pa, HO.lst (A.pcs.map fun P => .ref P.a)) ∈ FL CF CL CI A ++ L := .tail _ (.tail _ (.head _))
theorem mFn : (A.na, HO.lst A.nv) ∈ FL CF CL CI A ++ L := .tail _ (.tail _ (.tail _ (.head _)))
theorem mFlot (h : A.lots[j]? = some x) : (x.a, HO.ins CL x.dx (ltF x.s)) ∈ FL CF CL CI A ++ L := mem_lot h
theorem mFpc (h : A.pcs[k]? = some P) : (P.a, HO.ins CI P.dx (pcF P)) ∈ FL CF CL CI A ++ L := mem_pc h (.head _)
theorem mFpl (h : A.pcs[k]? = some P) : (P.l, HO.dK (lotKV P.s.holds)) ∈ FL CF CL CI A ++ L := mem_pc h (.tail _ (.head _))
theorem mFpp (h : A.pcs[k]? = some P) : (P.p, HO.lst (pcV P.s.holds)) ∈ FL CF CL CI A ++ L := mem_pc h (.tail _ (.tail _ (.head _)))
/-! .. with nothing ahead of it -/
theorem mFpcE {a : Addr} (h : A.pcs[k]? = some P) (e : a = P.a) : (a, HO.ins CI P.dx (pcF P)) ∈ FL CF CL CI A ++ L := e ▸ mFpc h
theorem mFplE {a : Addr} (h : A.pcs[k]? = some P) (e : a = P.l) : (a, HO.dK (lotKV P.s.holds)) ∈ FL CF CL CI A ++ L := e ▸ mFpl h
theorem mFppE {a : Addr} (h : A.pcs[k]? = some P) (e : a = P.p) : (a, HO.lst (pcV P.s.holds)) ∈ FL CF CL CI A ++ L := e ▸ mFpp h
end
end WK
namespace WK
open PySem PySem.Spec PyProof.Rows L2 PM
/-- what reads alike in all that comes of an entry -/
def Stays (K : PySem.W.Frag) (F : Ent) (B : Hp) (v : V) (xs : List V) : Prop := ∃ a, v = .ref a ∧ ((∀ B' L H, Ex B B' → Ok F B' L H → SqL K H a xs) ∨ SqT K B a xs)
section
variable {P : Program} {w : World} {K : PySem.W.Frag} {H : Hp} {Q : VK} {a : Addr} {z : Str} {zs : List Str}
theorem v_notInT (h : SqT K H a (zs.map V.str)) (k : Q (.bl (!decide (z ∈ zs))) H) : OpU P w K (compareOp .NotIn) (.str z) (.ref a) H Q :=
  .ofK (r := fun K => rIn K true) (fun _ _ => op_notIn_seq) ⟨a, _, rfl, .inr h, rfl, flat_strs zs, by rw [if_pos rfl, inV_strs]; exact k⟩
end
end WK
namespace WK
open PySem PySem.Spec PyProof.Rows L2 PM
section
variable {F : Ent} {B H : Hp} {L : Led} {CF CL CI : Addr} {A : AFl}
theorem Ok.addPc {P : APc} (S : Ok F B (pcC CI P ++ (FL CF CL CI A ++ L)) H) : Ok F B (FL CF CL CI { A with pcs := A.pcs ++ [P] } ++ L) (upd H A.pa (.lst ((A.pcs.map fun P => .ref P.a) ++ [.ref P.a]))) := by
  have S1 : Ok F B _ (upd H A.pa (.lst ((A.pcs.map fun P => .ref P.a) ++ [.ref P.a]))) := S.mutN 5 (p := A.pa) (o := .lst (A.pcs.map fun P => .ref P.a)) (o' := .lst ((A.pcs.map fun P => .ref P.a) ++ [.ref P.a])) rfl
  refine S1.perm ?_
  unfold FL
  dsimp only
  rw [List.map_append, List.flatMap_append, List.flatMap_cons, List.flatMap_nil, List.append_nil]
  show List.Perm (pcC CI P ++ ((A.f, _) :: (A.la, _) :: (A.pa, _) :: (A.na, _) :: ((A.lots.map (lotC CL) ++ A.pcs.flatMap (pcC CI)) ++ L))) ((A.f, _) :: (A.la, _) :: (A.pa, _) :: (A.na, _) :: ((A.lots.map (lotC CL) ++ (A.pcs.flatMap (pcC CI) ++ pcC CI P)) ++ L))
  have e : ∀ (p q r s : Addr × HO) (X Y Z C : Led), List.Perm (C ++ (p :: q :: r :: s :: ((X ++ Y) ++ Z))) (p :: q :: r :: s :: ((X ++ (Y ++ C)) ++ Z)) := fun p q r s X Y Z C => by
    have h := List.Perm.append_right Z (List.perm_append_comm (l₁ := C) (l₂ := p :: q :: r :: s :: (X ++ Y)))
    simpa [List.append_assoc] using h
  exact e _ _ _ _ _ _ _ _
end
end WK
namespace WK
open PySem PySem.Spec PyProof.Rows L2 PM
end WK
namespace WK
open PySem PySem.Spec PyProof.Rows L2 PM
section
variable {F : Ent} {B H : Hp} {L : Led} {CF CL CI : Addr} {A : AFl} {P : APc} {k : Nat}
abbrev APc.hold (P : APc) (h : Hold) : APc := { P with s := { P.s with holds := P.s.holds ++ [h] } }
end
end WK
namespace WK
open PySem PySem.Spec PyProof.Rows L2 PM
section
variable {Pg : Program} {w : World} {K : PySem.W.Frag} {Q : VK} {F : Ent} {B H : Hp} {L : Led} {CF CL CI : Addr} {A : AFl} {P : APc} {k : Nat}
end
end WK

namespace PM
open PySem L2 WK
def lotHolds (xs : List (Nat × Int)) : List Hold := xs.map fun x => .lot x.1 x.2
def pcHolds (ks : List Nat) : List Hold := ks.map .pc
def isBought (rs : List PRow) (z : Str) : Bool := match PM.rowOf rs z with | some r => r.needs.isEmpty && r.steps.isEmpty | none => false
/-- what is taken of one need -/
def Fl.taken (fs : Fl) (z : Str) (m : Int) : Option (List Hold) :=
  if isBought fs.rs z then (if (takeLots fs.lots z m).2 = 0 then some (lotHolds (takeLots fs.lots z m).1) else none)
  else if m.toNat ≤ (stockOf fs.pcs z).length then some (pcHolds ((stockOf fs.pcs z).take m.toNat)) else none
def Fl.giveAll (fs : Fl) (k0 : Nat) (hs : List Hold) : Fl := hs.foldl (fun s h => s.give k0 h) fs
/-- a piece begun, holding these -/
def Fl.begin_ (fs : Fl) (z : Str) (noSteps : Bool) (hs : List Hold) : Fl :=
  let f1 := { fs with pcs := fs.pcs ++ [newPc z] }.giveAll fs.pcs.length hs
  { f1 with pcs := if noSteps = true then f1.pcs.modify fs.pcs.length (fun p => { p with state := "made" }) else f1.pcs, book := f1.book ++ [.begin_ z] }
/-- what may be put into a piece -/
structure GiveOk (nl np k0 : Nat) (old hs : List Hold) : Prop where
  pc : ∀ k, Hold.pc k ∈ hs → k < np ∧ k ≠ k0
  lot : ∀ j m, Hold.lot j m ∈ hs → j < nl ∧ 0 ≤ m ∧ m < 1000
  nd : ((old ++ hs).filterMap fun h => match h with | .lot j _ => some j | .pc _ => none).Nodup
  len : old.length + hs.length < 10000
theorem GiveOk.head {nl np k0 : Nat} {old hs : List Hold} {h : Hold} (g : GiveOk nl np k0 old (h :: hs)) : GiveOk nl np k0 (old ++ [h]) hs where
  pc := fun k hk => g.pc k (.tail _ hk)
  lot := fun j m hk => g.lot j m (.tail _ hk)
  nd := by have := g.nd; rw [show old ++ h :: hs = (old ++ [h]) ++ hs by simp] at this; exact this
  len := by have := g.len; rw [List.length_append]; simp at this ⊢; omega
theorem GiveOk.app {nl np k0 : Nat} {old a b : List Hold} (g : GiveOk nl np k0 old (a ++ b)) : GiveOk nl np k0 old a ∧ GiveOk nl np k0 (old ++ a) b := by
  refine ⟨⟨fun k hk => g.pc k (List.mem_append_left _ hk), fun j m hk => g.lot j m (List.mem_append_left _ hk), ?_, ?_⟩, ⟨fun k hk => g.pc k (List.mem_append_right _ hk), fun j m hk => g.lot j m (List.mem_append_right _ hk), ?_, ?_⟩⟩
  · have := g.nd
    rw [← List.append_assoc, List.filterMap_append, List.nodup_append] at this
    exact this.1
  · have := g.len; rw [List.length_append] at this; omega
  · have := g.nd
    rwa [← List.append_assoc] at this
  · have := g.len; rw [List.length_append] at this ⊢; omega
theorem GiveOk.fresh {nl np k0 : Nat} {old hs : List Hold} {j : Nat} {m : Int} (g : GiveOk nl np k0 old (.lot j m :: hs)) : ∀ m', Hold.lot j m' ∉ old := fun m' hm => by
  have := g.nd
  rw [List.filterMap_append, List.nodup_append] at this
  exact this.2.2 j (List.mem_filterMap.mpr ⟨_, hm, rfl⟩) j (List.mem_filterMap.mpr ⟨_, .head _, rfl⟩) rfl
end PM

namespace WK
open PySem PySem.Spec PyProof.Rows L2
end WK
namespace WK
open PySem PySem.Spec PyProof.Rows L2 PM
end WK
namespace WK
open PySem PySem.Spec PyProof.Rows L2 PM
theorem giveAll_frame (k0 : Nat) : ∀ (hs : List Hold) (fs : Fl), (fs.giveAll k0 hs).rs = fs.rs ∧ (fs.giveAll k0 hs).rates = fs.rates ∧ (fs.giveAll k0 hs).book = fs.book ∧ (fs.giveAll k0 hs).spent = fs.spent ∧ (fs.giveAll k0 hs).lost = fs.lost
  | [], fs => ⟨rfl, rfl, rfl, rfl, rfl⟩
  | h :: hs, fs => by
    have ih := giveAll_frame k0 hs (fs.give k0 h)
    have e : (fs.give k0 h).rs = fs.rs ∧ (fs.give k0 h).rates = fs.rates ∧ (fs.give k0 h).book = fs.book ∧ (fs.give k0 h).spent = fs.spent ∧ (fs.give k0 h).lost = fs.lost := by
      unfold Fl.give
      cases h with
      | lot j m =>
        dsimp only
        cases fs.lots[j]? <;> cases fs.pcs[k0]? <;> exact ⟨rfl, rfl, rfl, rfl, rfl⟩
      | pc k =>
        dsimp only
        cases fs.pcs[k]? <;> cases fs.pcs[k0]? <;> exact ⟨rfl, rfl, rfl, rfl, rfl⟩
    show ((fs.give k0 h).giveAll k0 hs).rs = _ ∧ _
    rw [ih.1, e.1]
    exact ⟨rfl, ih.2.1.trans e.2.1, ih.2.2.1.trans e.2.2.1, ih.2.2.2.1.trans e.2.2.2.1, ih.2.2.2.2.trans e.2.2.2.2⟩
end WK

namespace WK
open PySem PySem.Spec PyProof.Rows L2 PM
end WK
namespace WK
open PySem PySem.Spec PyProof.Rows L2
theorem call_int_blR {X : Cx} : CallR X (.type "int") (fun xs H Q => ∃ b, xs = [.bl b] ∧ Q (.int (if b = true then 1 else 0)) H) := by
  intro pins s σ H xs us Q I rs h
  obtain ⟨b, rfl, h⟩ := h
  cases rs with
  | cons r1 rs =>
    cases rs
    obtain rfl := r1
    exact PySem.call_int_bool ⟨.int _, H, I.tok _, ⟨_, rfl⟩, h⟩
/-- int(bool) -/
theorem v_intBl {P : Program} {w : World} {K : PySem.W.Frag} {H : Hp} {Q : VK} {b : Bool} (k : Q (.int (if b = true then 1 else 0)) H) : CallU P w K (.type "int") [.bl b] H Q :=
  .of (fun _ _ => call_int_blR) ⟨b, rfl, k⟩
end WK

namespace PM
open PySem L2 WK
/-- another piece in the place of one -/
def replPc (o n : Nat) : List Hold → List Hold
  | [] => []
  | .pc x :: t => if x = o then .pc n :: t else .pc x :: replPc o n t
  | .lot j m :: t => .lot j m :: replPc o n t
theorem lotsOf_repl (o n : Nat) : ∀ hs, lotsOf (replPc o n hs) = lotsOf hs
  | [] => rfl
  | .pc x :: t => by
    unfold replPc
    by_cases e : x = o
    · rw [if_pos e]; rfl
    · rw [if_neg e]
      show lotsOf (replPc o n t) = lotsOf t
      exact lotsOf_repl o n t
  | .lot j m :: t => by
    show (j, m) :: lotsOf (replPc o n t) = (j, m) :: lotsOf t
    rw [lotsOf_repl o n t]
/-- the first place -/
theorem pcsOf_repl (o n : Nat) : ∀ (hs : List Hold), o ∈ pcsOf hs → ∃ j, (pcsOf hs)[j]? = some o ∧ (∀ m, m < j → (pcsOf hs)[m]? ≠ some o) ∧ pcsOf (replPc o n hs) = (pcsOf hs).set j n
  | [], h => by cases h
  | .pc x :: t, h => by
    have e1 : pcsOf (.pc x :: t) = x :: pcsOf t := rfl
    unfold replPc
    by_cases e : x = o
    · rw [if_pos e, e1]
      subst e
      exact ⟨0, rfl, fun m hm => by omega, rfl⟩
    · rw [if_neg e, e1]
      rw [e1] at h
      rcases List.mem_cons.mp h with h | h
      · exact absurd h.symm e
      · obtain ⟨j, h1, h2, h3⟩ := pcsOf_repl o n t h
        refine ⟨j + 1, h1, fun m hm => ?_, ?_⟩
        · cases m with
          | zero => intro z; exact e (Option.some.inj z)
          | succ m => exact h2 m (by omega)
        · show x :: pcsOf (replPc o n t) = _
          rw [h3]
          rfl
  | .lot j m :: t, h => pcsOf_repl o n t h
theorem replPc_len (o n : Nat) : ∀ hs, (replPc o n hs).length = hs.length
  | [] => rfl
  | .pc x :: t => by
    unfold replPc
    by_cases e : x = o
    · rw [if_pos e]; rfl
    · rw [if_neg e, List.length_cons, List.length_cons, replPc_len o n t]
  | .lot j m :: t => by
    show (replPc o n t).length + 1 = t.length + 1
    rw [replPc_len o n t]
/-- a held piece is changed for another -/
def Fl.swap (fs : Fl) (k o n : Nat) (p q r : Pc) : Fl :=
  { fs with pcs := (((fs.pcs.set k { p with holds := replPc o n p.holds, cost := p.cost + (r.cost - q.cost), state := "made" }).set o { q with state := "bad", above := none }).set n { r with state := "within", above := some k }), book := fs.book ++ [.swap k o n] }
end PM

namespace WK
open PySem PySem.Spec PyProof.Rows L2 PM
section
variable {Pg : Program} {w : World} {K : PySem.W.Frag} {Q : VK} {F : Ent} {B H : Hp} {L : Led} {CF CL CI : Addr} {A : AFl} {P : APc} {k : Nat} {a : Addr}
abbrev APc.withHolds (P : APc) (hs : List Hold) : APc := { P with s := { P.s with holds := hs } }
end
end WK

namespace WK
open PySem PySem.Spec PyProof.Rows L2 PM
/-- a floor, its pieces' cells told apart -/
def FLg (CF CL : Addr) (A : AFl) (G : Led) : Led :=
  (A.f, .ins CF A.dx (WK.flF A)) :: (A.la, .lst (A.lots.map fun x => .ref x.a)) :: (A.pa, .lst (A.pcs.map fun P => .ref P.a)) :: (A.na, .lst A.nv) :: (A.lots.map (lotC CL) ++ G)
section
variable {Pg : Program} {w : World} {K : PySem.W.Frag} {Q : VK} {F : Ent} {B H : Hp} {L G : Led} {CF CL CI : Addr} {A : AFl} {P : APc} {x : ALot} {j k : Nat} {D : Ends} {σ : L2.St} {f : Str} {y : V}
end
end WK
namespace PM
open PySem L2 WK
def stripLot (s : List Lt × Int) (x : Nat × Int) : List Lt × Int := match s.1[x.1]? with
  | some l => (s.1.set x.1 { l with left := l.left + x.2 }, s.2 + x.2 * l.price)
  | none => s
def stripPc (s : List Pc × Int) (k : Nat) : List Pc × Int := match s.1[k]? with
  | some q => (s.1.set k { q with state := "made", above := none }, s.2 + q.cost)
  | none => s
/-- a piece is taken apart -/
def Fl.strip (fs : Fl) (k : Nat) (p : Pc) : Fl :=
  { fs with lots := ((lotsOf p.holds).foldl stripLot (fs.lots, 0)).1, pcs := ((pcsOf p.holds).foldl stripPc (fs.pcs, ((lotsOf p.holds).foldl stripLot (fs.lots, 0)).2)).1.set k { p with cost := 0, holds := [], state := "stripped", own := 0 }, lost := fs.lost + (p.cost - ((pcsOf p.holds).foldl stripPc (fs.pcs, ((lotsOf p.holds).foldl stripLot (fs.lots, 0)).2)).2), book := fs.book ++ [.strip k] }
end PM

namespace WK
open PySem PySem.Spec PyProof.Rows L2 PM
/-! the cells of the law's own floor: the same pure floor, told by dicts and lists -/
structure MLot where
  a : Addr
  s : Lt
structure MPc where
  a : Addr
  h : Addr
  hv : List V
  s : Pc
structure AMl where
  w : Addr
  dn : Addr
  ds : Addr
  rt : V
  la : Addr
  pa : Addr
  ba : Addr
  bv : List V
  rs : List PRow
  rates : List Int
  lots : List MLot
  pcs : List MPc
  book : List Deed
  spent : Int
  lost : Int
def AMl.st (M : AMl) : Fl := ⟨M.rs, M.rates, M.lots.map (·.s), M.pcs.map (·.s), M.book, M.spent, M.lost⟩
def encHold : Hold → PyData
  | .lot j m => .tuple [.str "lot", .int j, .int m]
  | .pc k => .tuple [.str "piece", .int k, .int 1]
abbrev wKV (M : AMl) : List (Key × V) := [(.inr "needs", .ref M.dn), (.inr "steps", .ref M.ds), (.inr "rates", M.rt), (.inr "lots", .ref M.la), (.inr "pieces", .ref M.pa), (.inr "lost", .int M.lost), (.inr "paid", .int M.spent), (.inr "book", .ref M.ba)]
abbrev mpKV (P : MPc) : List (Key × V) := [(.inr "part", .str P.s.part), (.inr "state", .str P.s.state), (.inr "at", .int P.s.at_), (.inr "minutes", .int P.s.own), (.inr "holds", .ref P.h), (.inr "client", optI P.s.client)]
abbrev mlV (s : Lt) : List V := [.str s.part, .int s.left, .int s.price]
abbrev mLotC (x : MLot) : Addr × HO := (x.a, .lst (mlV x.s))
def mPcC (P : MPc) : Led := [(P.a, .dK (mpKV P)), (P.h, .lst P.hv)]
def ML (M : AMl) : Led :=
  (M.w, .dK (wKV M)) :: (M.la, .lst (M.lots.map fun x => .ref x.a)) :: (M.pa, .lst (M.pcs.map fun P => .ref P.a)) :: (M.ba, .lst M.bv) :: (M.lots.map mLotC ++ M.pcs.flatMap mPcC)
/-- what of it stays: needs and steps by names, the rates, the holds and the book as data -/
structure MB (K : PySem.W.Frag) (B : Hp) (M : AMl) : Prop where
  rates : Dp K B M.rt (.tuple (M.rates.map .int))
  book : DpAll K B M.bv (M.book.map encDeed)
  holds : ∀ P ∈ M.pcs, DpAll K B P.hv (P.s.holds.map encHold)
theorem MB.up {K : PySem.W.Frag} {B B' : Hp} {M : AMl} (e : Ex B B') (h : MB K B M) : MB K B' M := ⟨h.rates.up e, h.book.up e, fun P hP => (h.holds P hP).up e⟩
section
variable {F : Ent} {B H : Hp} {L : Led} {M : AMl} {P : MPc} {x : MLot} {k j : Nat}
theorem mW : (M.w, HO.dK (wKV M)) ∈ ML M ++ L := .head _
theorem mWl : (M.la, HO.lst (M.lots.map fun x => .ref x.a)) ∈ ML M ++ L := .tail _ (.head _)
theorem mWp : (M.pa, HO.lst (M.pcs.map fun P => .ref P.a)) ∈ ML M ++ L := .tail _ (.tail _ (.head _))
theorem mWb : (M.ba, HO.lst M.bv) ∈ ML M ++ L := .tail _ (.tail _ (.tail _ (.head _)))
theorem mWlot (h : M.lots[j]? = some x) : mLotC x ∈ ML M ++ L :=
  .tail _ (.tail _ (.tail _ (.tail _ (List.mem_append_left _ (List.mem_append_left _ (List.mem_map.mpr ⟨x, List.mem_of_getElem? h, rfl⟩))))))
theorem mWpc {q : Addr × HO} (h : M.pcs[k]? = some P) (hq : q ∈ mPcC P) : q ∈ ML M ++ L :=
  .tail _ (.tail _ (.tail _ (.tail _ (List.mem_append_left _ (List.mem_append_right _ (List.mem_flatMap.mpr ⟨P, List.mem_of_getElem? h, hq⟩))))))
end
end WK
namespace WK
open PySem PySem.Spec PyProof.Rows L2 PM
section
variable {Pg : Program} {w : World} {K : PySem.W.Frag} {F : Ent} {B H : Hp} {L : Led} {M : AMl} {P : MPc} {x : MLot} {k j : Nat} {f : Str} {y : V}
end
end WK
namespace WK
open PySem PySem.Spec PyProof.Rows L2 PM
section
variable {Pg : Program} {w : World} {K : PySem.W.Frag} {Q : VK} {F : Ent} {B H : Hp} {L : Led} {M : AMl}
end
end WK

namespace WK
open PySem PySem.Spec PyProof.Rows L2
section
variable {X : Cx}
end
section
variable {P : Program} {w : World} {K : PySem.W.Frag} {H B : Hp} {Q : VK} {F : Ent} {L : Led} {a b p : Addr} {xs : List V} {kvs more : List (Key × V)} {σ : L2.St}
/-! dict displays -/
def DispQ (p : Addr) (Q : VK) (ps : List (V × V)) (H : Hp) : Prop := H p = some (.dK []) ∧ ∃ kvs : List (Key × V), ps = kvs.map (fun kv => (kV kv.1, kv.2)) ∧ kvs.length ≤ 15 ∧ Q (.ref p) (upd H p (.dK (mergeK [] kvs)))
theorem r_pnil {QP : List (V × V) → Hp → Prop} (k : QP [] H) : tPairs [] σ H QP := k
theorem r_pcons {tk tv : TE} {trs : List (TE × TE)} {QP : List (V × V) → Hp → Prop} (k : tk σ H fun x H1 => tv σ H1 fun y H2 => tPairs trs σ H2 fun ps H3 => QP ((x, y) :: ps) H3) : tPairs ((tk, tv) :: trs) σ H QP := k
end
end WK
namespace WK
open PySem PySem.Spec PyProof.Rows L2 PM
/-! the law's own floor: what of it stays -/
inductive ColKV (K : PySem.W.Frag) (B : Hp) (enc : PRow → PyData) : List (Key × V) → List PRow → Prop
  | nil : ColKV K B enc [] []
  | cons {v r kvs rs} : Dp K B v (enc r) → ColKV K B enc kvs rs → ColKV K B enc ((.inr r.name, v) :: kvs) (r :: rs)
abbrev encNs (r : PRow) : PyData := .tuple (r.needs.map encNeed)
abbrev encSs (r : PRow) : PyData := .tuple (r.steps.map encStep)
section
variable {K : PySem.W.Frag} {B B' : Hp} {enc : PRow → PyData} {kvs : List (Key × V)} {rs : List PRow}
theorem ColKV.up (e : Ex B B') (h : ColKV K B enc kvs rs) : ColKV K B' enc kvs rs := by
  induction h with
  | nil => exact .nil
  | cons h _ ih => exact .cons (h.up e) ih
theorem ColKV.keys (h : ColKV K B enc kvs rs) : kvs.map (·.1) = (rs.map (·.name)).map Sum.inr := by
  induction h with
  | nil => rfl
  | cons _ _ ih => simp only [List.map_cons, ih]
theorem ColKV.get {z : Str} {r : PRow} (h : ColKV K B enc kvs rs) (e : PM.rowOf rs z = some r) : ∃ v, valV kvs (.inr z) = some v ∧ Dp K B v (enc r) := by
  induction h with
  | nil => simp [PM.rowOf] at e
  | @cons v q kvs rs hv h ih =>
    unfold PM.rowOf at e ih
    by_cases hz : q.name = z
    · rw [List.find?_cons_of_pos (by simpa using hz)] at e
      cases e
      exact ⟨v, by unfold valV; rw [List.find?_cons_of_pos (by simp [hz])]; rfl, hv⟩
    · rw [List.find?_cons_of_neg (by simpa using hz)] at e
      obtain ⟨u, h1, h2⟩ := ih e
      exact ⟨u, by unfold valV at h1 ⊢; rw [List.find?_cons_of_neg (by simp [hz])]; exact h1, h2⟩
theorem ColKV.none {z : Str} (h : ColKV K B enc kvs rs) (e : PM.rowOf rs z = none) : valV kvs (.inr z) = none := by
  refine valV_none fun hm => ?_
  rw [h.keys] at hm
  obtain ⟨y, hy, e2⟩ := List.mem_map.mp hm
  obtain ⟨r, hr, rfl⟩ := List.mem_map.mp hy
  unfold PM.rowOf at e
  rw [List.find?_eq_none] at e
  have := e r hr
  rw [Sum.inr.inj e2] at this
  simp at this
theorem ColKV.some {z : Str} (h : ColKV K B enc kvs rs) : (valV kvs (.inr z)).isSome = (PM.rowOf rs z).isSome := by
  cases e : PM.rowOf rs z with
  | none => rw [h.none e]; rfl
  | some r => obtain ⟨v, hv, _⟩ := h.get e; rw [hv]; rfl
end
structure MS (K : PySem.W.Frag) (B : Hp) (M : AMl) : Prop where
  mb : MB K B M
  needs : ∃ kvs, B M.dn = some (.dK kvs) ∧ ColKV K B encNs kvs M.rs
  steps : ∃ kvs, B M.ds = some (.dK kvs) ∧ ColKV K B encSs kvs M.rs
theorem MS.up {K : PySem.W.Frag} {B B' : Hp} {M : AMl} (e : Ex B B') (h : MS K B M) : MS K B' M := by
  obtain ⟨h1, ⟨k1, a1, b1⟩, ⟨k2, a2, b2⟩⟩ := h
  exact ⟨h1.up e, ⟨k1, e _ _ a1, b1.up e⟩, ⟨k2, e _ _ a2, b2.up e⟩⟩
/-- the cells of the law's floor, read -/
def MH (H : Hp) (M : AMl) : Prop := ∀ c ∈ ML M, H c.1 = some c.2
section
variable {F : Ent} {B H : Hp} {L : Led} {M : AMl} {P : MPc} {x : MLot} {k j : Nat}
theorem MH.w (h : MH H M) : H M.w = some (.dK (wKV M)) := h _ (.head _)
theorem MH.la (h : MH H M) : H M.la = some (.lst (M.lots.map fun x => .ref x.a)) := h _ (.tail _ (.head _))
theorem MH.pa (h : MH H M) : H M.pa = some (.lst (M.pcs.map fun P => .ref P.a)) := h _ (.tail _ (.tail _ (.head _)))
theorem MH.ba (h : MH H M) : H M.ba = some (.lst M.bv) := h _ (.tail _ (.tail _ (.tail _ (.head _))))
theorem MH.lot (h : MH H M) (e : M.lots[j]? = some x) : H x.a = some (.lst (mlV x.s)) :=
  h (x.a, .lst (mlV x.s)) (.tail _ (.tail _ (.tail _ (.tail _ (List.mem_append_left _ (List.mem_map.mpr ⟨x, List.mem_of_getElem? e, rfl⟩))))))
theorem MH.pc (h : MH H M) (e : M.pcs[k]? = some P) : H P.a = some (.dK (mpKV P)) :=
  h (P.a, .dK (mpKV P)) (.tail _ (.tail _ (.tail _ (.tail _ (List.mem_append_right _ (List.mem_flatMap.mpr ⟨P, List.mem_of_getElem? e, .head _⟩))))))
theorem MH.kept {B0 : Hp} {H0 : Hp} (h : MH H0 M) (S : Ok ⟨B0, H0, []⟩ B L H) : MH H M := fun c hc => S.kept (h c hc)
theorem MS.hold {K : PySem.W.Frag} (h : MS K B M) (e : M.pcs[k]? = some P) : DpAll K B P.hv (P.s.holds.map encHold) := h.mb.holds P (List.mem_of_getElem? e)
theorem wk_needs : valV (wKV M) (.inr "needs") = some (.ref M.dn) := rfl
theorem wk_steps : valV (wKV M) (.inr "steps") = some (.ref M.ds) := rfl
theorem wk_rates : valV (wKV M) (.inr "rates") = some M.rt := rfl
theorem wk_lots : valV (wKV M) (.inr "lots") = some (.ref M.la) := rfl
theorem wk_pieces : valV (wKV M) (.inr "pieces") = some (.ref M.pa) := rfl
theorem wk_lost : valV (wKV M) (.inr "lost") = some (.int M.lost) := rfl
theorem wk_paid : valV (wKV M) (.inr "paid") = some (.int M.spent) := rfl
theorem wk_book : valV (wKV M) (.inr "book") = some (.ref M.ba) := rfl
theorem mk_part : valV (mpKV P) (.inr "part") = some (.str P.s.part) := rfl
theorem mk_state : valV (mpKV P) (.inr "state") = some (.str P.s.state) := rfl
theorem mk_at : valV (mpKV P) (.inr "at") = some (.int P.s.at_) := rfl
theorem mk_minutes : valV (mpKV P) (.inr "minutes") = some (.int P.s.own) := rfl
theorem mk_holds : valV (mpKV P) (.inr "holds") = some (.ref P.h) := rfl
theorem mk_client : valV (mpKV P) (.inr "client") = some (optI P.s.client) := rfl
end
end WK
namespace WK
open PySem PySem.Spec PyProof.Rows L2 PM
theorem rdAt {H : Hp} {a : Addr} {o : HO} (h : H a = some o) : Rd H a o := .inl h
section
variable {L : Led} {M : AMl} {P : MPc} {x : MLot} {k j : Nat}
theorem mWpcA (h : M.pcs[k]? = some P) : (P.a, HO.dK (mpKV P)) ∈ ML M ++ L := mWpc h (.head _)
theorem mWpcH (h : M.pcs[k]? = some P) : (P.h, HO.lst P.hv) ∈ ML M ++ L := mWpc h (.tail _ (.head _))
theorem mWlotA (h : M.lots[j]? = some x) : (x.a, HO.lst (mlV x.s)) ∈ ML M ++ L := mWlot h
end
end WK
namespace WK
open PySem PySem.Spec PyProof.Rows L2 PM
theorem Ok.sqKept {K : PySem.W.Frag} {B0 H0 B H : Hp} {L : Led} {a : Addr} {xs : List V} (S : Ok ⟨B0, H0, []⟩ B L H) (h : H0 a = some (.lst xs)) : SqL K H a xs := .inl (.inl (S.kept h))
end WK
namespace WK
open PySem PySem.Spec PyProof.Rows L2 PM
theorem sqAt {K : PySem.W.Frag} {H : Hp} {a : Addr} {xs : List V} (h : H a = some (.lst xs)) : SqL K H a xs := .inl (.inl h)
end WK

namespace WK
open PySem PySem.Spec PyProof.Rows L2 PM
section
variable {Pg : Program} {w : World} {K : PySem.W.Frag} {Q : VK} {F : Ent} {B H : Hp} {L : Led} {M : AMl} {P : MPc} {k j : Nat} {y : V}
end
end WK
namespace L2
open PySem PySem.Spec PyProof.Rows WK
theorem DpAll.set {K : PySem.W.Frag} {B : Hp} : ∀ {vs : List V} {ds : List PyData}, DpAll K B vs ds → ∀ (j : Nat) {v : V} {d : PyData}, Dp K B v d → DpAll K B (vs.set j v) (ds.set j d)
  | _, _, .nil, _, _, _, _ => .nil
  | _, _, .cons _ t, 0, _, _, h => .cons h t
  | _, _, .cons h0 t, j + 1, _, _, h => .cons h0 (DpAll.set t j h)
end L2
namespace WK
open PySem PySem.Spec PyProof.Rows L2 PM
end WK

namespace WK
open PySem PySem.Spec PyProof.Rows L2 PM
/-! a test cut off: what is known of it behind it -/
def tCutT (t : TT) : TT := fun σ H Q => ∃ R : Bool → Hp → Prop, t σ H R ∧ ∀ b H', R b H' → Q b H'
end WK

/-! the deeds, as the law's own floor does them -/
namespace PM
open PySem L2 WK
inductive Ans where
  | told (d : PyData)
  | part (z : Str)
  | count
  | lacks (z : Str)
  | piece (z : Str)
def Ans.enc : Ans → PyData
  | .told d => .tuple [.str "told", d]
  | .part z => .tuple [.str "part", .str z]
  | .count => .tuple [.str "count", .int 0]
  | .lacks z => .tuple [.str "lacks", .str z]
  | .piece z => .tuple [.str "piece", .str z]
def Ans.isTold : Ans → Bool
  | .told _ => true
  | _ => false
def Fl.stepAt (fs : Fl) (p : Pc) : Int × Int := match PM.rowOf fs.rs p.part with
  | some r => r.steps.getD p.at_.toNat (0, 0)
  | none => (0, 0)
def Fl.nSteps (fs : Fl) (p : Pc) : Nat := match PM.rowOf fs.rs p.part with
  | some r => r.steps.length
  | none => 0
def Fl.rateOf (fs : Fl) (m : Int) : Int := fs.rates.getD m.toNat 0
def Fl.lacking (fs : Fl) (needs : List (Str × Int)) : Option Str := (needs.find? fun x => (fs.taken x.1 x.2).isNone).map (·.1)
def Fl.takes (fs : Fl) (needs : List (Str × Int)) : List (List Hold) := needs.map fun x => (fs.taken x.1 x.2).getD []
def Fl.pcAt (fs : Fl) (k : Int) : Option Pc := if 0 ≤ k then fs.pcs[k.toNat]? else none
def Fl.mBuy (fs : Fl) (z : Str) (m pr : Int) : Ans × Fl :=
  if isBought fs.rs z = true then (if (1 ≤ m ∧ m ≤ 999) ∧ (0 ≤ pr ∧ pr ≤ 9999) then (.told (.int fs.lots.length), fs.buy z m pr) else (.count, fs)) else (.part z, fs)
def Fl.mBegin (fs : Fl) (z : Str) : Ans × Fl := match PM.rowOf fs.rs z with
  | none => (.part z, fs)
  | some r => if (r.needs.isEmpty && r.steps.isEmpty) = true then (.part z, fs) else match fs.lacking r.needs with
    | some y => (.lacks y, fs)
    | none => (.told (.int fs.pcs.length), fs.begin_ z r.steps.isEmpty (fs.takes r.needs).flatten)
def Fl.mSwap (fs : Fl) (k : Nat) (p : Pc) (o n : Int) : Ans × Fl :=
  if 0 ≤ o ∧ o.toNat ∈ pcsOf p.holds then (match fs.pcAt n with
    | none => (.piece "", fs)
    | some r => if r.state = "stock" then (match fs.pcs[o.toNat]? with
      | some q => if r.part = q.part then (.told .none, fs.swap k o.toNat n.toNat p q r) else (.part r.part, fs)
      | none => (.count, fs)) else (.piece r.state, fs))
  else (.piece "", fs)
/-- a deed of a piece in a state in which it can be -/
def Fl.pDone (fs : Fl) (k : Nat) (p : Pc) : Deed → Ans × Fl
  | .work _ => (.told (.int (fs.stepAt p).2), fs.work k p ((fs.stepAt p).2 * fs.rateOf (fs.stepAt p).1) (fs.nSteps p))
  | .test _ g => (.told .none, fs.put k { p with state := if g = true then "stock" else "bad" } (.test k g))
  | .rework _ a => if 0 ≤ a ∧ a < fs.nSteps p then (.told .none, fs.put k { p with state := "making", at_ := a } (.rework k a)) else (.count, fs)
  | .swap _ o n => fs.mSwap k p o n
  | .scrap _ => (.told .none, fs.put k { p with state := "scrap" } (.scrap k))
  | .strip _ => (.told .none, fs.strip k p)
  | .sell _ c => if 0 ≤ c ∧ c ≤ 99 then (.told .none, fs.put k { p with state := "sold", client := some c } (.sell k c)) else (.count, fs)
  | .back _ => (.told .none, fs.put k { p with state := "made", client := none } (.back k))
  | _ => (.count, fs)
def Fl.onPc (fs : Fl) (k : Int) (ss : List Str) (f : Pc → Ans × Fl) : Ans × Fl := match fs.pcAt k with
  | none => (.piece "", fs)
  | some p => if p.state ∈ ss then f p else (.piece p.state, fs)
def Deed.states : Deed → List Str
  | .work _ => ["making"]
  | .test _ _ => ["made", "stock"]
  | .sell _ _ => ["stock"]
  | .back _ => ["sold"]
  | .scrap _ => ["making", "made", "bad", "stock"]
  | _ => ["bad"]
def Fl.mDone (fs : Fl) : Deed → Ans × Fl
  | .buy z m pr => fs.mBuy z m pr
  | .begin_ z => fs.mBegin z
  | .work k => fs.onPc k ["making"] fun p => fs.pDone k.toNat p (.work k)
  | .test k g => fs.onPc k ["made", "stock"] fun p => fs.pDone k.toNat p (.test k g)
  | .rework k a => fs.onPc k ["bad"] fun p => fs.pDone k.toNat p (.rework k a)
  | .swap k o n => fs.onPc k ["bad"] fun p => fs.pDone k.toNat p (.swap k o n)
  | .scrap k => fs.onPc k ["making", "made", "bad", "stock"] fun p => fs.pDone k.toNat p (.scrap k)
  | .strip k => fs.onPc k ["bad"] fun p => fs.pDone k.toNat p (.strip k)
  | .sell k c => fs.onPc k ["stock"] fun p => fs.pDone k.toNat p (.sell k c)
  | .back k => fs.onPc k ["sold"] fun p => fs.pDone k.toNat p (.back k)
/-! what always holds of a floor -/
def Fl.price (fs : Fl) (j : Nat) : Int := ((fs.lots[j]?).map (·.price)).getD 0
def Fl.pcost (fs : Fl) (k : Nat) : Int := ((fs.pcs[k]?).map (·.cost)).getD 0
def Fl.holdCost (fs : Fl) : Hold → Int
  | .lot j m => m * fs.price j
  | .pc k => fs.pcost k
def topCost (p : Pc) : Int := if p.state = "within" then 0 else p.cost
def lotWorth (x : Lt) : Int := x.left * x.price
def Fl.worth (fs : Fl) : Int := (fs.lots.map lotWorth).sum + (fs.pcs.map topCost).sum + fs.lost
abbrev stList : List Str := ["making", "made", "bad", "stock", "within", "sold", "scrap", "stripped"]
structure PcOk (fs : Fl) (k : Nat) (p : Pc) : Prop where
  row : ∃ r, PM.rowOf fs.rs p.part = some r ∧ (r.needs.isEmpty && r.steps.isEmpty) = false ∧ 0 ≤ p.at_ ∧ p.at_ ≤ r.steps.length ∧ ∀ k' ∈ pcsOf p.holds, ∀ q, fs.pcs[k']? = some q → q.part ∈ r.needs.map (·.1)
  st : p.state ∈ stList
  up : p.above = none ↔ p.state ≠ "within"
  held : ∀ k' ∈ pcsOf p.holds, ∃ q, fs.pcs[k']? = some q ∧ q.above = some k
  upper : ∀ k', p.above = some k' → ∃ q, fs.pcs[k']? = some q ∧ k ∈ pcsOf q.holds
  nd : (pcsOf p.holds).Nodup
  ndl : ((lotsOf p.holds).map (·.1)).Nodup
  lots : ∀ x ∈ lotsOf p.holds, x.1 < fs.lots.length ∧ 0 < x.2 ∧ x.2 ≤ 9
  cost : p.cost = p.own + (p.holds.map fs.holdCost).sum
  len : p.holds.length ≤ 200
  own : 0 ≤ p.own
structure FlI (fs : Fl) : Prop where
  good : GoodBook fs.rs
  six : fs.rates.length = 6
  rate : ∀ x ∈ fs.rates, 0 ≤ x ∧ x ≤ 99
  pc : ∀ (k : Nat) (p : Pc), fs.pcs[k]? = some p → PcOk fs k p
  lot : ∀ (j : Nat) (x : Lt), fs.lots[j]? = some x → 0 ≤ x.left ∧ 0 ≤ x.price ∧ x.price ≤ 9999 ∧ isBought fs.rs x.part = true
  money : fs.spent = fs.worth
  few : fs.lots.length + fs.pcs.length ≤ fs.book.length
/-- a piece that is making has steps left -/
def MakOk (fs : Fl) (k : Nat) (p : Pc) : Prop := p.state = "making" → p.at_ < fs.nSteps p
structure FlOk (fs : Fl) : Prop where
  i : FlI fs
  mak : ∀ (k : Nat) (p : Pc), fs.pcs[k]? = some p → MakOk fs k p
theorem FlI.new {rs : List PRow} {rates : List Int} (G : GoodBook rs) (h6 : rates.length = 6) (hr : ∀ x ∈ rates, 0 ≤ x ∧ x ≤ 99) : FlI (Fl.new rs rates) :=
  ⟨G, h6, hr, fun k p h => by simp [Fl.new] at h, fun j x h => by simp [Fl.new] at h, rfl, Nat.le_refl _⟩
theorem FlOk.new {rs : List PRow} {rates : List Int} (G : GoodBook rs) (h6 : rates.length = 6) (hr : ∀ x ∈ rates, 0 ≤ x ∧ x ≤ 99) : FlOk (Fl.new rs rates) :=
  ⟨FlI.new G h6 hr, fun k p h => by simp [Fl.new] at h⟩
/-! sums -/
theorem sum_set {α : Type} (f : α → Int) {l : List α} {k : Nat} {x y : α} (h : l[k]? = some x) : ((l.set k y).map f).sum = (l.map f).sum - f x + f y := by
  obtain ⟨l1, l2, hl, _, hs⟩ := at_split h
  rw [hs y, hl]
  simp only [List.map_append, List.map_cons, List.sum_append, List.sum_cons]
  omega
theorem hold_sum (fs : Fl) : ∀ hs : List Hold, (hs.map fs.holdCost).sum = ((lotsOf hs).map fun x => x.2 * fs.price x.1).sum + ((pcsOf hs).map fs.pcost).sum
  | [] => rfl
  | .lot j m :: t => by
    show m * fs.price j + (t.map fs.holdCost).sum = (m * fs.price j + ((lotsOf t).map _).sum) + ((pcsOf t).map _).sum
    rw [hold_sum fs t]; omega
  | .pc k :: t => by
    show fs.pcost k + (t.map fs.holdCost).sum = ((lotsOf t).map _).sum + (fs.pcost k + ((pcsOf t).map _).sum)
    rw [hold_sum fs t]; omega
theorem mem_pcsOf {hs : List Hold} {k : Nat} : k ∈ pcsOf hs ↔ Hold.pc k ∈ hs := by
  unfold pcsOf
  rw [List.mem_filterMap]
  constructor
  · rintro ⟨h, hm, e⟩
    cases h with
    | lot j m => cases e
    | pc k' => cases e; exact hm
  · exact fun h => ⟨_, h, rfl⟩
theorem mem_lotsOf {hs : List Hold} {x : Nat × Int} : x ∈ lotsOf hs ↔ Hold.lot x.1 x.2 ∈ hs := by
  unfold lotsOf
  rw [List.mem_filterMap]
  constructor
  · rintro ⟨h, hm, e⟩
    cases h with
    | lot j m => cases e; exact hm
    | pc k' => cases e
  · exact fun h => ⟨_, h, rfl⟩
theorem holdCost_congr {fs fs' : Fl} {hs : List Hold} (hl : ∀ x ∈ lotsOf hs, fs'.price x.1 = fs.price x.1) (hp : ∀ k ∈ pcsOf hs, fs'.pcost k = fs.pcost k) : hs.map fs'.holdCost = hs.map fs.holdCost := by
  refine List.map_congr_left fun h hh => ?_
  cases h with
  | lot j m => show m * _ = m * _; rw [hl (j, m) (mem_lotsOf.mpr hh)]
  | pc k => exact hp k (mem_pcsOf.mpr hh)
/-- one piece that is within none becomes another, which holds the same -/
theorem FlI.upd1 {fs : Fl} (I : FlI fs) {k : Nat} {p p' : Pc} (hp : fs.pcs[k]? = some p) (hw : p.state ≠ "within") (e1 : p'.part = p.part) (e2 : p'.holds = p.holds) (e3 : p'.above = p.above) (hs : p'.state ∈ stList) (hw' : p'.state ≠ "within")
    (hc : p'.cost - p'.own = p.cost - p.own) (ho : 0 ≤ p'.own) (ha : 0 ≤ p'.at_ ∧ p'.at_ ≤ fs.nSteps p) {sp : Int} {bk : List Deed} (hsp : sp - fs.spent = p'.cost - p.cost) (hb : fs.book.length ≤ bk.length) : FlI { fs with pcs := fs.pcs.set k p', spent := sp, book := bk } := by
  have O := I.pc k p hp
  have hk := (List.getElem?_eq_some_iff.mp hp).1
  have hab : p.above = none := O.up.mpr hw
  have look : ∀ (j : Nat), (fs.pcs.set k p')[j]? = if j = k then some p' else fs.pcs[j]? := fun j => by
    by_cases h : j = k
    · subst h; rw [List.getElem?_set_self hk, if_pos rfl]
    · rw [List.getElem?_set_ne (Ne.symm h), if_neg h]
  -- nobody holds it
  have nobody : ∀ (j : Nat) (q : Pc), fs.pcs[j]? = some q → k ∉ pcsOf q.holds := fun j q hq hm => by
    obtain ⟨q', h1, h2⟩ := (I.pc j q hq).held k hm
    rw [hp] at h1
    cases h1
    rw [hab] at h2
    cases h2
  have pcost : ∀ (j : Nat), j ≠ k → Fl.pcost { fs with pcs := fs.pcs.set k p', spent := sp, book := bk } j = fs.pcost j := fun j hj => by
    unfold Fl.pcost
    dsimp only
    rw [look, if_neg hj]
  have main : ∀ (j : Nat) (q q' : Pc), fs.pcs[j]? = some q → q'.part = q.part → q'.holds = q.holds → q'.above = q.above → q'.state ∈ stList → (q'.state ≠ "within" ↔ q.state ≠ "within") → q'.cost - q'.own = q.cost - q.own → 0 ≤ q'.own → (0 ≤ q'.at_ ∧ q'.at_ ≤ fs.nSteps q) → PcOk { fs with pcs := fs.pcs.set k p', spent := sp, book := bk } j q' := by
    intro j q q' hq f1 f2 f3 f4 f5 f6 f7 f8
    have Oq := I.pc j q hq
    have nk : ∀ k' ∈ pcsOf q.holds, k' ≠ k := fun k' hk' z => nobody j q hq (z ▸ hk')
    refine ⟨?_, f4, ?_, ?_, ?_, ?_, ?_, ?_, ?_, ?_, f7⟩
    · obtain ⟨r, r1, r2, r3, r4, r5⟩ := Oq.row
      have hn : fs.nSteps q = r.steps.length := by unfold Fl.nSteps; rw [r1]
      refine ⟨r, by rw [f1]; exact r1, r2, f8.1, by rw [← hn]; exact f8.2, fun k' hk' q2 hq2 => ?_⟩
      rw [f2] at hk'
      rw [show (({ fs with pcs := fs.pcs.set k p', spent := sp, book := bk } : Fl).pcs)[k']? = _ from look k', if_neg (nk k' hk')] at hq2
      exact r5 k' hk' q2 hq2
    · rw [f3, f5]; exact Oq.up
    · intro k' hk'
      rw [f2] at hk'
      obtain ⟨q2, h1, h2⟩ := Oq.held k' hk'
      exact ⟨q2, by show (fs.pcs.set k p')[k']? = _; rw [look, if_neg (nk k' hk')]; exact h1, h2⟩
    · intro k' hk'
      rw [f3] at hk'
      obtain ⟨q2, h1, h2⟩ := Oq.upper k' hk'
      by_cases e : k' = k
      · subst e
        rw [hp] at h1
        cases h1
        exact ⟨p', by show (fs.pcs.set k' p')[k']? = _; rw [look, if_pos rfl], by rw [e2]; exact h2⟩
      · exact ⟨q2, by show (fs.pcs.set k p')[k']? = _; rw [look, if_neg e]; exact h1, h2⟩
    · rw [f2]; exact Oq.nd
    · rw [f2]; exact Oq.ndl
    · rw [f2]; exact Oq.lots
    · rw [f2, holdCost_congr (fs := fs) (fs' := { fs with pcs := fs.pcs.set k p', spent := sp, book := bk }) (fun _ _ => rfl) (fun k' hk' => pcost k' (nk k' hk'))]
      have := Oq.cost
      omega
    · rw [f2]; exact Oq.len
  refine ⟨I.good, I.six, I.rate, fun j q hq => ?_, I.lot, ?_, ?_⟩
  · rw [show (({ fs with pcs := fs.pcs.set k p', spent := sp, book := bk } : Fl).pcs)[j]? = _ from look j] at hq
    by_cases e : j = k
    · subst e
      rw [if_pos rfl] at hq
      cases hq
      exact main j p _ hp e1 e2 e3 hs ⟨fun _ => hw, fun _ => hw'⟩ hc ho ha
    · rw [if_neg e] at hq
      have Oq := I.pc j q hq
      obtain ⟨r, r1, r2, r3, r4, r5⟩ := Oq.row
      exact main j q q hq rfl rfl rfl Oq.st Iff.rfl rfl Oq.own ⟨r3, by unfold Fl.nSteps; rw [r1]; exact r4⟩
  · have hm := I.money
    unfold Fl.worth at hm ⊢
    dsimp only
    rw [sum_set topCost hp]
    unfold topCost at hm ⊢
    rw [if_neg hw, if_neg hw']
    omega
  · show fs.lots.length + (fs.pcs.set k p').length ≤ bk.length
    rw [List.length_set]
    have := I.few
    omega
end PM

namespace PM
open PySem L2 WK
/-- a piece whose holds stay as they are -/
theorem PcOk.keep {fs fs' : Fl} {j : Nat} {q q' : Pc} (O : PcOk fs j q) (hrs : fs'.rs = fs.rs) (hl : fs'.lots.length = fs.lots.length) (hpr : ∀ i, fs'.price i = fs.price i)
    (e1 : q'.part = q.part) (e2 : q'.holds = q.holds) (e3 : q'.at_ = q.at_) (e4 : q'.cost = q.cost) (e5 : q'.own = q.own) (st : q'.state ∈ stList) (up : q'.above = none ↔ q'.state ≠ "within")
    (hh : ∀ k' ∈ pcsOf q.holds, ∀ q2, fs.pcs[k']? = some q2 → q2.above = some j → ∃ q2', fs'.pcs[k']? = some q2' ∧ q2'.part = q2.part ∧ q2'.above = some j ∧ q2'.cost = q2.cost)
    (upper : ∀ k', q'.above = some k' → ∃ q2, fs'.pcs[k']? = some q2 ∧ j ∈ pcsOf q2.holds) : PcOk fs' j q' := by
  refine ⟨?_, st, up, ?_, upper, by rw [e2]; exact O.nd, by rw [e2]; exact O.ndl, by rw [e2, hl]; exact O.lots, ?_, by rw [e2]; exact O.len, by rw [e5]; exact O.own⟩
  · obtain ⟨r, r1, r2, r3, r4, r5⟩ := O.row
    refine ⟨r, by rw [hrs, e1]; exact r1, r2, by rw [e3]; exact r3, by rw [e3]; exact r4, fun k' hk' q3 hq3 => ?_⟩
    rw [e2] at hk'
    obtain ⟨q2, h1, h2⟩ := O.held k' hk'
    obtain ⟨q2', g1, g2, _, _⟩ := hh k' hk' q2 h1 h2
    rw [g1] at hq3
    cases hq3
    rw [g2]
    exact r5 k' hk' q2 h1
  · intro k' hk'
    rw [e2] at hk'
    obtain ⟨q2, h1, h2⟩ := O.held k' hk'
    obtain ⟨q2', g1, _, g3, _⟩ := hh k' hk' q2 h1 h2
    exact ⟨q2', g1, g3⟩
  · rw [e2, e4, e5, holdCost_congr (fs := fs) (fun x _ => hpr x.1) (fun k' hk' => ?_)]
    · exact O.cost
    · obtain ⟨q2, h1, h2⟩ := O.held k' hk'
      obtain ⟨q2', g1, _, _, g4⟩ := hh k' hk' q2 h1 h2
      unfold Fl.pcost
      rw [g1, h1]
      exact g4
theorem FlI.above_none {fs : Fl} (I : FlI fs) {k : Nat} {p : Pc} (hp : fs.pcs[k]? = some p) (hw : p.state ≠ "within") : p.above = none := (I.pc k p hp).up.mpr hw
theorem FlI.within {fs : Fl} (I : FlI fs) {k j : Nat} {p : Pc} (hp : fs.pcs[k]? = some p) (h : p.above = some j) : p.state = "within" := by
  by_cases hs : p.state = "within"
  · exact hs
  · rw [I.above_none hp hs] at h
    cases h
/-- what is within none, nobody holds -/
theorem FlI.nobody {fs : Fl} (I : FlI fs) {k j : Nat} {p q : Pc} (hp : fs.pcs[k]? = some p) (hw : p.state ≠ "within") (hq : fs.pcs[j]? = some q) : k ∉ pcsOf q.holds := fun hm => by
  obtain ⟨q', h1, h2⟩ := (I.pc j q hq).held k hm
  rw [hp] at h1
  cases h1
  rw [I.above_none hp hw] at h2
  cases h2
theorem mem_set_nd {α : Type} [DecidableEq α] {l : List α} {j : Nat} {o n : α} (nd : l.Nodup) (hj : l[j]? = some o) (x : α) : x ∈ l.set j n ↔ x = n ∨ (x ∈ l ∧ x ≠ o) := by
  obtain ⟨l1, l2, hl, _, hs⟩ := at_split hj
  rw [hs n, hl]
  rw [hl] at nd
  have h1 := List.nodup_append.mp nd
  have h2 := List.nodup_cons.mp h1.2.1
  constructor
  · intro h
    rcases List.mem_append.mp h with h | h
    · exact .inr ⟨List.mem_append_left _ h, fun z => h1.2.2 x h o (.head _) z⟩
    · rcases List.mem_cons.mp h with h | h
      · exact .inl h
      · exact .inr ⟨List.mem_append_right _ (.tail _ h), fun z => h2.1 (z ▸ h)⟩
  · rintro (rfl | ⟨h, ne⟩)
    · exact List.mem_append_right _ (.head _)
    · rcases List.mem_append.mp h with h | h
      · exact List.mem_append_left _ h
      · rcases List.mem_cons.mp h with h | h
        · exact absurd h ne
        · exact List.mem_append_right _ (.tail _ h)
theorem nodup_set {α : Type} [DecidableEq α] {l : List α} {j : Nat} {o n : α} (nd : l.Nodup) (hj : l[j]? = some o) (hn : n ∉ l) : (l.set j n).Nodup := by
  obtain ⟨l1, l2, hl, _, hs⟩ := at_split hj
  rw [hs n]
  rw [hl] at nd hn
  have h1 := List.nodup_append.mp nd
  have h2 := List.nodup_cons.mp h1.2.1
  refine List.nodup_append.mpr ⟨h1.1, List.nodup_cons.mpr ⟨fun h => hn (List.mem_append_right _ (.tail _ h)), h2.2⟩, fun a ha b hb z => ?_⟩
  rcases List.mem_cons.mp hb with h | h
  · exact hn (List.mem_append_left _ (by rw [← h, ← z]; exact ha))
  · exact h1.2.2 a ha b (.tail _ h) z
theorem bad_ne : ("bad" : Str) ≠ "within" := by decide
theorem stock_ne : ("stock" : Str) ≠ "within" := by decide
theorem made_ne : ("made" : Str) ≠ "within" := by decide
theorem up_w {k : Nat} : (some k : Option Nat) = none ↔ ("within" : Str) ≠ "within" := ⟨(fun z => nomatch z), fun z => absurd rfl z⟩
theorem in_within : ("within" : Str) ∈ stList := by decide
theorem in_bad : ("bad" : Str) ∈ stList := by decide
theorem in_made : ("made" : Str) ∈ stList := by decide
theorem in_stripped : ("stripped" : Str) ∈ stList := by decide
theorem FlI.swap {fs : Fl} (I : FlI fs) {k o n : Nat} {p q r : Pc} (hp : fs.pcs[k]? = some p) (hq : fs.pcs[o]? = some q) (hr : fs.pcs[n]? = some r) (hps : p.state = "bad") (hrs : r.state = "stock") (hm : o ∈ pcsOf p.holds) (hpt : r.part = q.part) : FlI (fs.swap k o n p q r) := by
  have hpw : p.state ≠ "within" := by rw [hps]; decide
  have hrw' : r.state ≠ "within" := by rw [hrs]; decide
  have hqa : q.above = some k := by
    obtain ⟨q', h1, h2⟩ := (I.pc k p hp).held o hm
    rw [hq] at h1
    cases h1
    exact h2
  have hqw := I.within hq hqa
  have hko : k ≠ o := fun z => by subst z; rw [hp] at hq; cases hq; exact hpw hqw
  have hkn : k ≠ n := fun z => by subst z; rw [hp] at hr; cases hr; rw [hps] at hrs; exact absurd hrs (by decide)
  have hon : o ≠ n := fun z => by subst z; rw [hq] at hr; cases hr; exact hrw' hqw
  have lk := (List.getElem?_eq_some_iff.mp hp).1
  have lo := (List.getElem?_eq_some_iff.mp hq).1
  have ln := (List.getElem?_eq_some_iff.mp hr).1
  obtain ⟨s, s1, s2, s3⟩ := pcsOf_repl o n p.holds hm
  have O := I.pc k p hp
  have hnh : n ∉ pcsOf p.holds := I.nobody hr hrw' hp
  have mrep : ∀ x, x ∈ pcsOf (replPc o n p.holds) ↔ x = n ∨ (x ∈ pcsOf p.holds ∧ x ≠ o) := fun x => by rw [s3]; exact mem_set_nd O.nd s1 x
  let p' : Pc := { p with holds := replPc o n p.holds, cost := p.cost + (r.cost - q.cost), state := "made" }
  let q' : Pc := { q with state := "bad", above := none }
  let r' : Pc := { r with state := "within", above := some k }
  have look : ∀ i, (fs.swap k o n p q r).pcs[i]? = if i = n then some r' else if i = o then some q' else if i = k then some p' else fs.pcs[i]? := fun i => by
    show (((fs.pcs.set k p').set o q').set n r')[i]? = _
    by_cases h1 : i = n
    · subst h1; rw [List.getElem?_set_self (by rw [List.length_set, List.length_set]; exact ln), if_pos rfl]
    · rw [List.getElem?_set_ne (Ne.symm h1), if_neg h1]
      by_cases h2 : i = o
      · subst h2; rw [List.getElem?_set_self (by rw [List.length_set]; exact lo), if_pos rfl]
      · rw [List.getElem?_set_ne (Ne.symm h2), if_neg h2]
        by_cases h3 : i = k
        · subst h3; rw [List.getElem?_set_self lk, if_pos rfl]
        · rw [List.getElem?_set_ne (Ne.symm h3), if_neg h3]
  have lookN : (fs.swap k o n p q r).pcs[n]? = some r' := by rw [look, if_pos rfl]
  have lookO : (fs.swap k o n p q r).pcs[o]? = some q' := by rw [look, if_neg hon, if_pos rfl]
  have lookK : (fs.swap k o n p q r).pcs[k]? = some p' := by rw [look, if_neg hkn, if_neg hko, if_pos rfl]
  have other : ∀ i, i ≠ n → i ≠ o → i ≠ k → (fs.swap k o n p q r).pcs[i]? = fs.pcs[i]? := fun i h1 h2 h3 => by rw [look, if_neg h1, if_neg h2, if_neg h3]
  have pcost : ∀ i, i ≠ k → (fs.swap k o n p q r).pcost i = fs.pcost i := fun i hi => by
    unfold Fl.pcost
    by_cases h1 : i = n
    · subst h1; rw [lookN, hr]; rfl
    · by_cases h2 : i = o
      · subst h2; rw [lookO, hq]; rfl
      · rw [other i h1 h2 hi]
  -- what others hold
  have hold : ∀ (j : Nat) (a : Pc), fs.pcs[j]? = some a → j ≠ k → ∀ k' ∈ pcsOf a.holds, k' ≠ n ∧ k' ≠ o ∧ k' ≠ k := fun j a ha hj k' hk' =>
    ⟨fun z => I.nobody hr hrw' ha (z ▸ hk'), fun z => by
      obtain ⟨q2, h1, h2⟩ := (I.pc j a ha).held k' hk'
      subst z
      rw [hq] at h1
      cases h1
      rw [hqa] at h2
      exact hj (Option.some.inj h2).symm, fun z => I.nobody hp hpw ha (z ▸ hk')⟩
  have keep : ∀ (j : Nat) (a a' : Pc), fs.pcs[j]? = some a → j ≠ k → a'.part = a.part → a'.holds = a.holds → a'.at_ = a.at_ → a'.cost = a.cost → a'.own = a.own → a'.state ∈ stList → (a'.above = none ↔ a'.state ≠ "within") →
      (∀ k', a'.above = some k' → ∃ q2, (fs.swap k o n p q r).pcs[k']? = some q2 ∧ j ∈ pcsOf q2.holds) → PcOk (fs.swap k o n p q r) j a' := fun j a a' ha hj g1 g2 g3 g4 g5 g6 g7 g8 =>
    (I.pc j a ha).keep rfl rfl (fun _ => rfl) g1 g2 g3 g4 g5 g6 g7 (fun k' hk' q2 h1 h2 => by
      obtain ⟨m1, m2, m3⟩ := hold j a ha hj k' hk'
      exact ⟨q2, by rw [other k' m1 m2 m3]; exact h1, rfl, h2, rfl⟩) g8
  refine ⟨I.good, I.six, I.rate, fun j a ha => ?_, I.lot, ?_, ?_⟩
  · by_cases h1 : j = n
    · subst h1
      rw [lookN] at ha
      cases ha
      refine keep j r r' hr (Ne.symm hkn) rfl rfl rfl rfl rfl in_within up_w fun k' hk' => ?_
      cases hk'
      exact ⟨p', lookK, (mrep _).mpr (.inl rfl)⟩
    · by_cases h2 : j = o
      · subst h2
        rw [lookO] at ha
        cases ha
        exact keep j q q' hq (Ne.symm hko) rfl rfl rfl rfl rfl in_bad ⟨fun _ => bad_ne, fun _ => rfl⟩ fun k' hk' => by cases hk'
      · by_cases h3 : j = k
        · subst h3
          rw [lookK] at ha
          cases ha
          have oth : ∀ x ∈ pcsOf p.holds, x ≠ o → (fs.swap j o n p q r).pcs[x]? = fs.pcs[x]? := fun x hx hxo => other x (fun z => hnh (z ▸ hx)) hxo (fun z => I.nobody hp hpw hp (z ▸ hx))
          refine ⟨?_, in_made, ⟨fun _ => made_ne, fun _ => (show p.above = none from I.above_none hp hpw)⟩, fun x hx => ?_, fun k' hk' => ?_, ?_, ?_, ?_, ?_, ?_, O.own⟩
          · obtain ⟨rr, r1, r2, r3, r4, r5⟩ := O.row
            refine ⟨rr, r1, r2, r3, r4, fun x hx q3 hq3 => ?_⟩
            rcases (mrep x).mp hx with rfl | ⟨hx, hxo⟩
            · rw [lookN] at hq3
              cases hq3
              show r.part ∈ _
              rw [hpt]
              exact r5 o hm q hq
            · rw [oth x hx hxo] at hq3
              exact r5 x hx q3 hq3
          · rcases (mrep x).mp hx with rfl | ⟨hx, hxo⟩
            · exact ⟨r', lookN, rfl⟩
            · obtain ⟨q2, g1, g2⟩ := O.held x hx
              exact ⟨q2, by rw [oth x hx hxo]; exact g1, g2⟩
          · exact absurd (show p.above = some k' from hk') (by rw [I.above_none hp hpw]; exact fun z => nomatch z)
          · show (pcsOf (replPc o n p.holds)).Nodup
            rw [s3]
            exact nodup_set O.nd s1 hnh
          · show ((lotsOf (replPc o n p.holds)).map (·.1)).Nodup
            rw [lotsOf_repl]
            exact O.ndl
          · show ∀ x ∈ lotsOf (replPc o n p.holds), _
            rw [lotsOf_repl]
            exact O.lots
          · show p.cost + (r.cost - q.cost) = p.own + ((replPc o n p.holds).map _).sum
            rw [hold_sum, lotsOf_repl, s3]
            have c := O.cost
            rw [hold_sum] at c
            have e1 : ((pcsOf p.holds).set s n).map (fs.swap j o n p q r).pcost = ((pcsOf p.holds).set s n).map fs.pcost := List.map_congr_left fun x hx => pcost x fun z => by
              rcases (mem_set_nd O.nd s1 x).mp hx with h | h
              · exact hkn (z ▸ h)
              · exact I.nobody hp hpw hp (z ▸ h.1)
            rw [e1, sum_set fs.pcost s1]
            have e2 : fs.pcost o = q.cost := by unfold Fl.pcost; rw [hq]; rfl
            have e3 : fs.pcost n = r.cost := by unfold Fl.pcost; rw [hr]; rfl
            have e4 : ((lotsOf p.holds).map fun x => x.2 * (fs.swap j o n p q r).price x.1) = (lotsOf p.holds).map fun x => x.2 * fs.price x.1 := rfl
            rw [e2, e3, e4]
            omega
          · show (replPc o n p.holds).length ≤ 200
            rw [replPc_len]
            exact O.len
        · rw [other j h1 h2 h3] at ha
          have Oa := I.pc j a ha
          refine keep j a a ha h3 rfl rfl rfl rfl rfl Oa.st Oa.up fun k' hk' => ?_
          obtain ⟨q2, g1, g2⟩ := Oa.upper k' hk'
          by_cases e1 : k' = n
          · subst e1; rw [hr] at g1; cases g1; exact ⟨r', lookN, g2⟩
          · by_cases e2 : k' = o
            · subst e2; rw [hq] at g1; cases g1; exact ⟨q', lookO, g2⟩
            · by_cases e3 : k' = k
              · subst e3
                rw [hp] at g1
                cases g1
                exact ⟨p', lookK, (mrep j).mpr (.inr ⟨g2, h2⟩)⟩
              · exact ⟨q2, by rw [other k' e1 e2 e3]; exact g1, g2⟩
  · have hmn := I.money
    unfold Fl.worth at hmn ⊢
    show fs.spent = (fs.lots.map lotWorth).sum + ((((fs.pcs.set k p').set o q').set n r').map topCost).sum + fs.lost
    have g1 : (fs.pcs.set k p')[o]? = some q := by rw [List.getElem?_set_ne hko]; exact hq
    have g2 : ((fs.pcs.set k p').set o q')[n]? = some r := by rw [List.getElem?_set_ne hon, List.getElem?_set_ne hkn]; exact hr
    rw [sum_set topCost g2, sum_set topCost g1, sum_set topCost hp]
    have t1 : topCost p = p.cost := if_neg hpw
    have t2 : topCost q = 0 := if_pos hqw
    have t3 : topCost r = r.cost := if_neg hrw'
    have t4 : topCost p' = p.cost + (r.cost - q.cost) := if_neg made_ne
    have t5 : topCost q' = q.cost := if_neg bad_ne
    have t6 : topCost r' = 0 := if_pos rfl
    rw [t1, t2, t3, t4, t5, t6]
    omega
  · show fs.lots.length + (((fs.pcs.set k p').set o q').set n r').length ≤ (fs.book ++ [_]).length
    rw [List.length_set, List.length_set, List.length_set, List.length_append]
    have := I.few
    omega
end PM

namespace PM
open PySem L2 WK
/-- a piece is put into another -/
theorem FlI.givePc {fs : Fl} (I : FlI fs) {n k : Nat} {p q : Pc} (hn : fs.pcs[n]? = some p) (hk : fs.pcs[k]? = some q) (hpw : p.state ≠ "within") (hqs : q.state = "stock") (hne : k ≠ n)
    (hrow : ∀ r, PM.rowOf fs.rs p.part = some r → q.part ∈ r.needs.map (·.1)) (hlen : p.holds.length < 200) : FlI (fs.give n (.pc k)) := by
  have hqw : q.state ≠ "within" := by rw [hqs]; decide
  have lk := (List.getElem?_eq_some_iff.mp hk).1
  have ln := (List.getElem?_eq_some_iff.mp hn).1
  let q' : Pc := { q with state := "within", above := some n }
  let p' : Pc := { p with holds := p.holds ++ [Hold.pc k], cost := p.cost + q.cost }
  have eg : fs.give n (.pc k) = { fs with pcs := (fs.pcs.set k q').set n p' } := by unfold Fl.give; dsimp only; rw [hk, hn]
  rw [eg]
  have O := I.pc n p hn
  have look : ∀ i, ((fs.pcs.set k q').set n p')[i]? = if i = n then some p' else if i = k then some q' else fs.pcs[i]? := fun i => by
    by_cases h1 : i = n
    · subst h1; rw [List.getElem?_set_self (by rw [List.length_set]; exact ln), if_pos rfl]
    · rw [List.getElem?_set_ne (Ne.symm h1), if_neg h1]
      by_cases h2 : i = k
      · subst h2; rw [List.getElem?_set_self lk, if_pos rfl]
      · rw [List.getElem?_set_ne (Ne.symm h2), if_neg h2]
  have lookN : ((fs.pcs.set k q').set n p')[n]? = some p' := by rw [look, if_pos rfl]
  have lookK : ((fs.pcs.set k q').set n p')[k]? = some q' := by rw [look, if_neg hne, if_pos rfl]
  have other : ∀ i, i ≠ n → i ≠ k → ((fs.pcs.set k q').set n p')[i]? = fs.pcs[i]? := fun i h1 h2 => by rw [look, if_neg h1, if_neg h2]
  have hold : ∀ (j : Nat) (a : Pc), fs.pcs[j]? = some a → ∀ k' ∈ pcsOf a.holds, k' ≠ n ∧ k' ≠ k := fun j a ha k' hk' => ⟨fun z => I.nobody hn hpw ha (z ▸ hk'), fun z => I.nobody hk hqw ha (z ▸ hk')⟩
  have keep : ∀ (j : Nat) (a a' : Pc), fs.pcs[j]? = some a → a'.part = a.part → a'.holds = a.holds → a'.at_ = a.at_ → a'.cost = a.cost → a'.own = a.own → a'.state ∈ stList → (a'.above = none ↔ a'.state ≠ "within") →
      (∀ k', a'.above = some k' → ∃ q2, ((fs.pcs.set k q').set n p')[k']? = some q2 ∧ j ∈ pcsOf q2.holds) → PcOk { fs with pcs := (fs.pcs.set k q').set n p' } j a' := fun j a a' ha g1 g2 g3 g4 g5 g6 g7 g8 =>
    (I.pc j a ha).keep rfl rfl (fun _ => rfl) g1 g2 g3 g4 g5 g6 g7 (fun k' hk' q2 h1 h2 => by
      obtain ⟨m1, m2⟩ := hold j a ha k' hk'
      exact ⟨q2, by show ((fs.pcs.set k q').set n p')[k']? = _; rw [other k' m1 m2]; exact h1, rfl, h2, rfl⟩) g8
  have mrep : ∀ x, x ∈ pcsOf p'.holds ↔ x = k ∨ x ∈ pcsOf p.holds := fun x => by
    show x ∈ pcsOf (p.holds ++ [Hold.pc k]) ↔ _
    rw [pcsOf_app, List.mem_append]
    show _ ∨ x ∈ [k] ↔ _
    rw [List.mem_singleton]
    exact Or.comm
  refine ⟨I.good, I.six, I.rate, fun j a ha => ?_, I.lot, ?_, ?_⟩
  · replace ha : ((fs.pcs.set k q').set n p')[j]? = some a := ha
    by_cases h1 : j = n
    · subst h1
      rw [lookN] at ha
      cases ha
      have oth : ∀ x ∈ pcsOf p.holds, ((fs.pcs.set k q').set j p')[x]? = fs.pcs[x]? := fun x hx => other x (hold j p hn x hx).1 (hold j p hn x hx).2
      refine ⟨?_, O.st, O.up, fun x hx => ?_, fun k' hk' => ?_, ?_, ?_, ?_, ?_, ?_, O.own⟩
      · obtain ⟨rr, r1, r2, r3, r4, r5⟩ := O.row
        refine ⟨rr, r1, r2, r3, r4, fun x hx q3 hq3 => ?_⟩
        replace hq3 : ((fs.pcs.set k q').set j p')[x]? = some q3 := hq3
        rcases (mrep x).mp hx with rfl | hx
        · rw [lookK] at hq3
          cases hq3
          exact hrow rr r1
        · rw [oth x hx] at hq3
          exact r5 x hx q3 hq3
      · rcases (mrep x).mp hx with rfl | hx
        · exact ⟨q', lookK, rfl⟩
        · obtain ⟨q2, g1, g2⟩ := O.held x hx
          exact ⟨q2, by show ((fs.pcs.set k q').set j p')[x]? = _; rw [oth x hx]; exact g1, g2⟩
      · exact absurd (show p.above = some k' from hk') (by rw [I.above_none hn hpw]; exact fun z => nomatch z)
      · show (pcsOf (p.holds ++ [Hold.pc k])).Nodup
        rw [pcsOf_app]
        refine List.nodup_append.mpr ⟨O.nd, by show [k].Nodup; simp, fun a ha b hb z => ?_⟩
        have hb' : b = k := List.mem_singleton.mp hb
        exact I.nobody hk hqw hn (by rw [← hb', ← z]; exact ha)
      · show ((lotsOf (p.holds ++ [Hold.pc k])).map (·.1)).Nodup
        rw [lotsOf_app]
        show ((lotsOf p.holds ++ ([] : List (Nat × Int))).map (·.1)).Nodup
        rw [List.append_nil]
        exact O.ndl
      · show ∀ x ∈ lotsOf (p.holds ++ [Hold.pc k]), _
        rw [lotsOf_app]
        show ∀ x ∈ lotsOf p.holds ++ ([] : List (Nat × Int)), _
        rw [List.append_nil]
        exact O.lots
      · show p.cost + q.cost = p.own + ((p.holds ++ [Hold.pc k]).map _).sum
        have c := O.cost
        rw [List.map_append, List.sum_append, holdCost_congr (fs := fs) (fs' := { fs with pcs := (fs.pcs.set k q').set j p' }) (hs := p.holds) (fun _ _ => rfl) (fun x hx => by unfold Fl.pcost; dsimp only; rw [oth x hx])]
        have e : (List.map (Fl.holdCost { fs with pcs := (fs.pcs.set k q').set j p' }) [Hold.pc k]).sum = q.cost := by
          show Fl.pcost _ k + 0 = _
          unfold Fl.pcost
          dsimp only
          rw [lookK]
          exact Int.add_zero _
        rw [e]
        omega
      · show (p.holds ++ [Hold.pc k]).length ≤ 200
        rw [List.length_append]
        exact hlen
    · by_cases h2 : j = k
      · subst h2
        rw [lookK] at ha
        cases ha
        refine keep j q q' hk rfl rfl rfl rfl rfl in_within up_w fun k' hk' => ?_
        cases hk'
        exact ⟨p', lookN, (mrep _).mpr (.inl rfl)⟩
      · rw [other j h1 h2] at ha
        have Oa := I.pc j a ha
        refine keep j a a ha rfl rfl rfl rfl rfl Oa.st Oa.up fun k' hk' => ?_
        obtain ⟨q2, g1, g2⟩ := Oa.upper k' hk'
        by_cases e1 : k' = n
        · subst e1; rw [hn] at g1; cases g1; exact ⟨p', lookN, (mrep _).mpr (.inr g2)⟩
        · by_cases e2 : k' = k
          · subst e2; rw [hk] at g1; cases g1; exact ⟨q', lookK, g2⟩
          · exact ⟨q2, by rw [other k' e1 e2]; exact g1, g2⟩
  · have hmn := I.money
    unfold Fl.worth at hmn ⊢
    show fs.spent = (fs.lots.map lotWorth).sum + (((fs.pcs.set k q').set n p').map topCost).sum + fs.lost
    have g1 : (fs.pcs.set k q')[n]? = some p := by rw [List.getElem?_set_ne hne]; exact hn
    rw [sum_set topCost g1, sum_set topCost hk]
    have t1 : topCost p = p.cost := if_neg hpw
    have t2 : topCost q = q.cost := if_neg hqw
    have t3 : topCost p' = p.cost + q.cost := if_neg hpw
    have t4 : topCost q' = 0 := if_pos rfl
    rw [t1, t2, t3, t4]
    omega
  · show fs.lots.length + ((fs.pcs.set k q').set n p').length ≤ fs.book.length
    rw [List.length_set, List.length_set]
    exact I.few
/-- a lot's share is put into a piece -/
theorem FlI.giveLot {fs : Fl} (I : FlI fs) {n j : Nat} {m : Int} {p : Pc} {x : Lt} (hn : fs.pcs[n]? = some p) (hj : fs.lots[j]? = some x) (hpw : p.state ≠ "within") (h0 : 0 < m) (h9 : m ≤ 9) (hx : m ≤ x.left) (hnew : j ∉ (lotsOf p.holds).map (·.1)) (hlen : p.holds.length < 200) : FlI (fs.give n (.lot j m)) := by
  have ln := (List.getElem?_eq_some_iff.mp hn).1
  have lj := (List.getElem?_eq_some_iff.mp hj).1
  let x' : Lt := { x with left := x.left - m }
  let p' : Pc := { p with holds := p.holds ++ [Hold.lot j m], cost := p.cost + m * x.price }
  have eg : fs.give n (.lot j m) = { fs with lots := fs.lots.set j x', pcs := fs.pcs.set n p' } := by unfold Fl.give; dsimp only; rw [hj, hn]
  rw [eg]
  have O := I.pc n p hn
  have look : ∀ i, (fs.pcs.set n p')[i]? = if i = n then some p' else fs.pcs[i]? := fun i => by
    by_cases h1 : i = n
    · subst h1; rw [List.getElem?_set_self ln, if_pos rfl]
    · rw [List.getElem?_set_ne (Ne.symm h1), if_neg h1]
  have lookN : (fs.pcs.set n p')[n]? = some p' := by rw [look, if_pos rfl]
  have other : ∀ i, i ≠ n → (fs.pcs.set n p')[i]? = fs.pcs[i]? := fun i h1 => by rw [look, if_neg h1]
  have lookL : ∀ i, (fs.lots.set j x')[i]? = if i = j then some x' else fs.lots[i]? := fun i => by
    by_cases h1 : i = j
    · subst h1; rw [List.getElem?_set_self lj, if_pos rfl]
    · rw [List.getElem?_set_ne (Ne.symm h1), if_neg h1]
  have pr : ∀ i, Fl.price { fs with lots := fs.lots.set j x', pcs := fs.pcs.set n p' } i = fs.price i := fun i => by
    unfold Fl.price
    dsimp only
    rw [lookL]
    by_cases h : i = j
    · subst h; rw [if_pos rfl, hj]; rfl
    · rw [if_neg h]
  have hold : ∀ (i : Nat) (a : Pc), fs.pcs[i]? = some a → ∀ k' ∈ pcsOf a.holds, k' ≠ n := fun i a ha k' hk' z => I.nobody hn hpw ha (z ▸ hk')
  have hpo : pcsOf p'.holds = pcsOf p.holds := by
    show pcsOf (p.holds ++ [Hold.lot j m]) = _
    rw [pcsOf_app]
    exact List.append_nil _
  have hlo : lotsOf p'.holds = lotsOf p.holds ++ [(j, m)] := by
    show lotsOf (p.holds ++ [Hold.lot j m]) = _
    rw [lotsOf_app]
    rfl
  refine ⟨I.good, I.six, I.rate, fun i a ha => ?_, fun i a ha => ?_, ?_, ?_⟩
  · replace ha : (fs.pcs.set n p')[i]? = some a := ha
    by_cases h1 : i = n
    · subst h1
      rw [lookN] at ha
      cases ha
      refine ⟨?_, O.st, O.up, fun x hx => ?_, fun k' hk' => ?_, by rw [hpo]; exact O.nd, ?_, ?_, ?_, ?_, O.own⟩
      · obtain ⟨rr, r1, r2, r3, r4, r5⟩ := O.row
        refine ⟨rr, r1, r2, r3, r4, fun x hx q3 hq3 => ?_⟩
        rw [hpo] at hx
        replace hq3 : (fs.pcs.set i p')[x]? = some q3 := hq3
        rw [other x (hold i p hn x hx)] at hq3
        exact r5 x hx q3 hq3
      · rw [hpo] at hx
        obtain ⟨q2, g1, g2⟩ := O.held x hx
        exact ⟨q2, by show (fs.pcs.set i p')[x]? = _; rw [other x (hold i p hn x hx)]; exact g1, g2⟩
      · exact absurd (show p.above = some k' from hk') (by rw [I.above_none hn hpw]; exact fun z => nomatch z)
      · rw [hlo, List.map_append]
        refine List.nodup_append.mpr ⟨O.ndl, by simp, fun a ha b hb z => ?_⟩
        have hb' : b = j := List.mem_singleton.mp hb
        exact hnew (by rw [← hb', ← z]; exact ha)
      · rw [hlo]
        intro y hy
        show y.1 < (fs.lots.set j x').length ∧ _
        rw [List.length_set]
        rcases List.mem_append.mp hy with hy | hy
        · exact O.lots y hy
        · rw [List.mem_singleton] at hy
          subst hy
          exact ⟨lj, h0, h9⟩
      · show p.cost + m * x.price = p.own + ((p.holds ++ [Hold.lot j m]).map _).sum
        have c := O.cost
        rw [List.map_append, List.sum_append, holdCost_congr (fs := fs) (fs' := { fs with lots := fs.lots.set j x', pcs := fs.pcs.set i p' }) (hs := p.holds) (fun y _ => pr y.1) (fun x hx => by unfold Fl.pcost; dsimp only; rw [other x (hold i p hn x hx)])]
        have e : (List.map (Fl.holdCost { fs with lots := fs.lots.set j x', pcs := fs.pcs.set i p' }) [Hold.lot j m]).sum = m * x.price := by
          show m * Fl.price _ j + 0 = _
          rw [pr]
          unfold Fl.price
          rw [hj]
          exact Int.add_zero _
        rw [e]
        omega
      · show (p.holds ++ [Hold.lot j m]).length ≤ 200
        rw [List.length_append]
        exact hlen
    · rw [other i h1] at ha
      have Oa := I.pc i a ha
      refine Oa.keep rfl (List.length_set) pr rfl rfl rfl rfl rfl Oa.st Oa.up (fun k' hk' q2 g1 g2 => ⟨q2, by show (fs.pcs.set n p')[k']? = _; rw [other k' (hold i a ha k' hk')]; exact g1, rfl, g2, rfl⟩) fun k' hk' => ?_
      obtain ⟨q2, g1, g2⟩ := Oa.upper k' hk'
      by_cases e1 : k' = n
      · subst e1
        rw [hn] at g1
        cases g1
        exact ⟨p', lookN, by rw [hpo]; exact g2⟩
      · exact ⟨q2, by show (fs.pcs.set n p')[k']? = _; rw [other k' e1]; exact g1, g2⟩
  · replace ha : (fs.lots.set j x')[i]? = some a := ha
    rw [lookL] at ha
    by_cases h : i = j
    · rw [if_pos h] at ha
      cases ha
      obtain ⟨l1, l2⟩ := I.lot j x hj
      exact ⟨by show 0 ≤ x.left - m; omega, l2⟩
    · rw [if_neg h] at ha
      exact I.lot i a ha
  · have hmn := I.money
    unfold Fl.worth at hmn ⊢
    show fs.spent = ((fs.lots.set j x').map lotWorth).sum + ((fs.pcs.set n p').map topCost).sum + fs.lost
    rw [sum_set topCost hn, sum_set lotWorth hj]
    have t1 : topCost p = p.cost := if_neg hpw
    have t3 : topCost p' = p.cost + m * x.price := if_neg hpw
    have t4 : lotWorth x' = x.left * x.price - m * x.price := Int.sub_mul ..
    have t5 : lotWorth x = x.left * x.price := rfl
    rw [t1, t3, t4, t5]
    omega
  · show (fs.lots.set j x').length + (fs.pcs.set n p').length ≤ fs.book.length
    rw [List.length_set, List.length_set]
    exact I.few
/-- what may be put in, one behind the other -/
structure PutOk (fs : Fl) (n : Nat) (p : Pc) (hs : List Hold) : Prop where
  pc : ∀ k ∈ pcsOf hs, ∃ q, fs.pcs[k]? = some q ∧ q.state = "stock" ∧ ∀ r, PM.rowOf fs.rs p.part = some r → q.part ∈ r.needs.map (·.1)
  nd : (pcsOf hs).Nodup
  lot : ∀ x ∈ lotsOf hs, ∃ l, fs.lots[x.1]? = some l ∧ 0 < x.2 ∧ x.2 ≤ 9 ∧ x.2 ≤ l.left
  ndl : ((lotsOf p.holds ++ lotsOf hs).map (·.1)).Nodup
  len : p.holds.length + hs.length ≤ 200
theorem FlI.giveAll {n : Nat} : ∀ {hs : List Hold} {fs : Fl} {p : Pc}, FlI fs → fs.pcs[n]? = some p → p.state ≠ "within" → p.state ≠ "stock" → PutOk fs n p hs →
    FlI (fs.giveAll n hs) ∧ (fs.giveAll n hs).pcs.length = fs.pcs.length ∧ (fs.giveAll n hs).lots.length = fs.lots.length ∧ (∃ c, (fs.giveAll n hs).pcs[n]? = some { p with holds := p.holds ++ hs, cost := c }) ∧
      ∀ i q, i ≠ n → fs.pcs[i]? = some q → ∃ q', (fs.giveAll n hs).pcs[i]? = some q' ∧ q'.part = q.part ∧ q'.at_ = q.at_ ∧ (q' = q ∨ q'.state = "within")
  | [], fs, p, I, hn, hw, hst, P => ⟨I, rfl, rfl, ⟨p.cost, by rw [List.append_nil]; exact hn⟩, fun i q _ h => ⟨q, h, rfl, rfl, .inl rfl⟩⟩
  | .pc k :: hs, fs, p, I, hn, hw, hst, P => by
    have ln := (List.getElem?_eq_some_iff.mp hn).1
    have e0 : fs.giveAll n (.pc k :: hs) = (fs.give n (.pc k)).giveAll n hs := rfl
    have len := P.len
    rw [List.length_cons] at len
    obtain ⟨q, hk, hqs, hqr⟩ := P.pc k (show k ∈ k :: pcsOf hs from .head _)
    have lk := (List.getElem?_eq_some_iff.mp hk).1
    have hne : k ≠ n := fun z => by subst z; rw [hn] at hk; cases hk; exact hst hqs
    have I1 := I.givePc hn hk hw hqs hne hqr (by omega)
    have nd := List.nodup_cons.mp (show (k :: pcsOf hs).Nodup from P.nd)
    have eg : fs.give n (.pc k) = { fs with pcs := (fs.pcs.set k { q with state := "within", above := some n }).set n { p with holds := p.holds ++ [Hold.pc k], cost := p.cost + q.cost } } := by unfold Fl.give; dsimp only; rw [hk, hn]
    have hn1 : (fs.give n (.pc k)).pcs[n]? = some { p with holds := p.holds ++ [Hold.pc k], cost := p.cost + q.cost } := by
      rw [eg]
      exact List.getElem?_set_self (by rw [List.length_set]; exact ln)
    have oth : ∀ i, i ≠ n → (fs.give n (.pc k)).pcs[i]? = if i = k then some { q with state := "within", above := some n } else fs.pcs[i]? := fun i hi => by
      rw [eg]
      show ((fs.pcs.set k _).set n _)[i]? = _
      rw [List.getElem?_set_ne (Ne.symm hi)]
      by_cases h2 : i = k
      · subst h2; rw [List.getElem?_set_self lk, if_pos rfl]
      · rw [List.getElem?_set_ne (Ne.symm h2), if_neg h2]
    have P1 : PutOk (fs.give n (.pc k)) n { p with holds := p.holds ++ [Hold.pc k], cost := p.cost + q.cost } hs := by
      refine ⟨fun k2 hk2 => ?_, nd.2, fun x hx => ?_, ?_, by show (p.holds ++ [Hold.pc k]).length + _ ≤ 200; rw [List.length_append, List.length_singleton]; omega⟩
      · obtain ⟨q2, h1, h2, h3⟩ := P.pc k2 (show k2 ∈ k :: pcsOf hs from .tail _ hk2)
        have hk2n : k2 ≠ n := fun z => by subst z; rw [hn] at h1; cases h1; exact hst h2
        refine ⟨q2, ?_, h2, ?_⟩
        · rw [oth k2 hk2n, if_neg (fun (z : k2 = k) => nd.1 (by rw [← z]; exact hk2))]; exact h1
        · rw [eg]; exact h3
      · rw [eg]; exact P.lot x hx
      · show ((lotsOf (p.holds ++ [Hold.pc k]) ++ lotsOf hs).map (·.1)).Nodup
        rw [lotsOf_app]
        show ((lotsOf p.holds ++ ([] : List (Nat × Int)) ++ lotsOf hs).map (·.1)).Nodup
        rw [List.append_nil]
        exact P.ndl
    obtain ⟨J, j1, j2, ⟨c, j3⟩, j4⟩ := FlI.giveAll I1 hn1 hw hst P1
    rw [e0]
    refine ⟨J, by rw [j1, eg]; show ((fs.pcs.set k _).set n _).length = _; rw [List.length_set, List.length_set], by rw [j2, eg], ⟨c, ?_⟩, fun i q0 hi hq0 => ?_⟩
    · rw [j3]
      dsimp only
      rw [List.append_assoc]
      rfl
    · by_cases h2 : i = k
      · subst h2
        rw [hk] at hq0
        cases hq0
        obtain ⟨q', w1, w2, w3, w4⟩ := j4 i _ hi (by rw [oth i hi, if_pos rfl])
        exact ⟨q', w1, w2, w3, .inr (w4.elim (fun e => by rw [e]) id)⟩
      · exact j4 i q0 hi (by rw [oth i hi, if_neg h2]; exact hq0)
  | .lot j m :: hs, fs, p, I, hn, hw, hst, P => by
    have ln := (List.getElem?_eq_some_iff.mp hn).1
    have e0 : fs.giveAll n (.lot j m :: hs) = (fs.give n (.lot j m)).giveAll n hs := rfl
    have len := P.len
    rw [List.length_cons] at len
    obtain ⟨x, hj, h0, h9, hx⟩ := P.lot (j, m) (show (j, m) ∈ (j, m) :: lotsOf hs from .head _)
    have lj := (List.getElem?_eq_some_iff.mp hj).1
    have ndl : ((lotsOf p.holds).map (·.1) ++ j :: (lotsOf hs).map (·.1)).Nodup := by
      have := P.ndl
      rw [List.map_append] at this
      exact this
    have nd2 := List.nodup_append.mp ndl
    have I1 := I.giveLot hn hj hw h0 h9 hx (fun z => nd2.2.2 j z j (.head _) rfl) (by omega)
    have eg : fs.give n (.lot j m) = { fs with lots := fs.lots.set j { x with left := x.left - m }, pcs := fs.pcs.set n { p with holds := p.holds ++ [Hold.lot j m], cost := p.cost + m * x.price } } := by unfold Fl.give; dsimp only; rw [hj, hn]
    have hn1 : (fs.give n (.lot j m)).pcs[n]? = some { p with holds := p.holds ++ [Hold.lot j m], cost := p.cost + m * x.price } := by
      rw [eg]
      exact List.getElem?_set_self ln
    have oth : ∀ i, i ≠ n → (fs.give n (.lot j m)).pcs[i]? = fs.pcs[i]? := fun i hi => by
      rw [eg]
      exact List.getElem?_set_ne (Ne.symm hi)
    have P1 : PutOk (fs.give n (.lot j m)) n { p with holds := p.holds ++ [Hold.lot j m], cost := p.cost + m * x.price } hs := by
      refine ⟨fun k2 hk2 => ?_, P.nd, fun y hy => ?_, ?_, by show (p.holds ++ [Hold.lot j m]).length + _ ≤ 200; rw [List.length_append, List.length_singleton]; omega⟩
      · obtain ⟨q2, h1, h2, h3⟩ := P.pc k2 hk2
        have hk2n : k2 ≠ n := fun z => by subst z; rw [hn] at h1; cases h1; exact hst h2
        exact ⟨q2, by rw [oth k2 hk2n]; exact h1, h2, by rw [eg]; exact h3⟩
      · obtain ⟨l, h1, h2⟩ := P.lot y (show y ∈ (j, m) :: lotsOf hs from .tail _ hy)
        have hyj : y.1 ≠ j := fun z => (List.nodup_cons.mp nd2.2.1).1 (z ▸ List.mem_map.mpr ⟨y, hy, rfl⟩)
        refine ⟨l, ?_, h2⟩
        rw [eg]
        show (fs.lots.set j _)[y.1]? = _
        rw [List.getElem?_set_ne (Ne.symm hyj)]
        exact h1
      · show ((lotsOf (p.holds ++ [Hold.lot j m]) ++ lotsOf hs).map (·.1)).Nodup
        rw [lotsOf_app]
        show ((lotsOf p.holds ++ [(j, m)] ++ lotsOf hs).map (·.1)).Nodup
        rw [List.append_assoc, List.map_append]
        exact ndl
    obtain ⟨J, j1, j2, ⟨c, j3⟩, j4⟩ := FlI.giveAll I1 hn1 hw hst P1
    rw [e0]
    refine ⟨J, by rw [j1, eg]; show (fs.pcs.set n _).length = _; rw [List.length_set], by rw [j2, eg]; show (fs.lots.set j _).length = _; rw [List.length_set], ⟨c, ?_⟩, fun i q0 hi hq0 => ?_⟩
    · rw [j3]
      dsimp only
      rw [List.append_assoc]
      rfl
    · exact j4 i q0 hi (by rw [oth i hi]; exact hq0)
end PM

namespace PM
open PySem L2 WK
/-! what is taken -/
theorem takeFold_ok (z : Str) (full : List Lt) : ∀ (xs : List (Lt × Nat)) (acc : List (Nat × Int) × Int), (∀ y ∈ xs, full[y.2]? = some y.1) → (∀ e ∈ acc.1, ∃ l, full[e.1]? = some l ∧ l.part = z ∧ 0 < e.2 ∧ e.2 ≤ l.left) → 0 ≤ acc.2 →
    (∀ e ∈ (xs.foldl (takeStep z) acc).1, ∃ l, full[e.1]? = some l ∧ l.part = z ∧ 0 < e.2 ∧ e.2 ≤ l.left) ∧ 0 ≤ (xs.foldl (takeStep z) acc).2 ∧ ((xs.foldl (takeStep z) acc).1.map (·.2)).sum + (xs.foldl (takeStep z) acc).2 = (acc.1.map (·.2)).sum + acc.2 ∧
      ((xs.foldl (takeStep z) acc).1.map (·.1)).Sublist (acc.1.map (·.1) ++ xs.map (·.2))
  | [], acc, _, h1, h2 => ⟨h1, h2, rfl, by simp⟩
  | x :: xs, acc, h0, h1, h2 => by
    have hx := h0 x (.head _)
    have hr : ∀ y ∈ xs, full[y.2]? = some y.1 := fun y hy => h0 y (.tail _ hy)
    rw [List.foldl_cons]
    by_cases c : x.1.part = z ∧ 0 < x.1.left ∧ 0 < acc.2
    · have e : takeStep z acc x = (acc.1 ++ [(x.2, if acc.2 < x.1.left then acc.2 else x.1.left)], acc.2 - (if acc.2 < x.1.left then acc.2 else x.1.left)) := if_pos c
      have hv : 0 < (if acc.2 < x.1.left then acc.2 else x.1.left) ∧ (if acc.2 < x.1.left then acc.2 else x.1.left) ≤ x.1.left ∧ (if acc.2 < x.1.left then acc.2 else x.1.left) ≤ acc.2 := by
        obtain ⟨_, c2, c3⟩ := c
        split <;> omega
      rw [e]
      obtain ⟨a1, a2, a3, a4⟩ := takeFold_ok z full xs (acc.1 ++ [(x.2, if acc.2 < x.1.left then acc.2 else x.1.left)], acc.2 - (if acc.2 < x.1.left then acc.2 else x.1.left)) hr (fun e he => by
        rcases List.mem_append.mp he with he | he
        · exact h1 e he
        · rw [List.mem_singleton] at he
          subst he
          exact ⟨x.1, hx, c.1, hv.1, hv.2.1⟩) (by show 0 ≤ acc.2 - _; omega)
      refine ⟨a1, a2, ?_, ?_⟩
      · rw [a3]
        dsimp only
        rw [List.map_append, List.sum_append, List.map_cons, List.map_nil, List.sum_cons, List.sum_nil]
        dsimp only
        omega
      · refine a4.trans ?_
        dsimp only
        rw [List.map_append, List.map_cons, List.append_assoc]
        exact List.Sublist.refl _
    · have e : takeStep z acc x = acc := if_neg c
      rw [e]
      obtain ⟨a1, a2, a3, a4⟩ := takeFold_ok z full xs acc hr h1 h2
      exact ⟨a1, a2, a3, a4.trans (List.Sublist.append_left (List.sublist_cons_self _ _) _)⟩
theorem zip_at {α : Type} {l : List α} {y : α × Nat} (h : y ∈ l.zipIdx) : l[y.2]? = some y.1 := by
  obtain ⟨i, hi⟩ := List.getElem?_of_mem h
  rw [List.getElem?_zipIdx] at hi
  cases e : l[i]? with
  | none => rw [e] at hi; cases hi
  | some v =>
    rw [e] at hi
    cases hi
    simpa using e
theorem zip_nd {α : Type} (l : List α) : (l.zipIdx.map (·.2)).Nodup := by
  have : l.zipIdx.map (·.2) = List.range l.length := by
    rw [List.zipIdx_map_snd]
    exact List.range_eq_range'.symm
  rw [this]
  exact List.nodup_range
theorem sum_pos_bound : ∀ (l : List (Nat × Int)) (s : Int), (∀ e ∈ l, 0 < e.2) → (l.map (·.2)).sum ≤ s → (l.length : Int) ≤ s ∧ ∀ e ∈ l, e.2 ≤ s
  | [], s, _, h => ⟨h, fun e he => nomatch he⟩
  | a :: l, s, hp, h => by
    rw [List.map_cons, List.sum_cons] at h
    have ha := hp a (.head _)
    obtain ⟨i1, i2⟩ := sum_pos_bound l (s - a.2) (fun e he => hp e (.tail _ he)) (by omega)
    refine ⟨by rw [List.length_cons]; omega, fun e he => ?_⟩
    rcases List.mem_cons.mp he with rfl | he
    · have : (0 : Int) ≤ (l.length : Int) := by omega
      omega
    · have := i2 e he
      omega
theorem takeLots_ok (lots : List Lt) (z : Str) {m : Int} (hm : 0 ≤ m) : (∀ e ∈ (takeLots lots z m).1, ∃ l, lots[e.1]? = some l ∧ l.part = z ∧ 0 < e.2 ∧ e.2 ≤ l.left ∧ e.2 ≤ m) ∧ ((takeLots lots z m).1.map (·.1)).Nodup ∧ ((takeLots lots z m).1.length : Int) ≤ m := by
  obtain ⟨a1, a2, a3, a4⟩ := takeFold_ok z lots lots.zipIdx ([], m) (fun y hy => zip_at hy) (fun e he => nomatch he) hm
  have a3' : ((takeLots lots z m).1.map (·.2)).sum ≤ m := by
    have : ((takeLots lots z m).1.map (·.2)).sum + (takeLots lots z m).2 = 0 + m := a3
    have h2 : 0 ≤ (takeLots lots z m).2 := a2
    omega
  obtain ⟨b1, b2⟩ := sum_pos_bound (takeLots lots z m).1 m (fun e he => (a1 e he).elim fun l h => h.2.2.1) a3'
  refine ⟨fun e he => ?_, ?_, b1⟩
  · obtain ⟨l, h1, h2, h3, h4⟩ := a1 e he
    exact ⟨l, h1, h2, h3, h4, b2 e he⟩
  · exact a4.nodup (by rw [List.map_nil, List.nil_append]; exact zip_nd lots)
theorem mem_stockOf {pcs : List Pc} {z : Str} {k : Nat} : k ∈ stockOf pcs z ↔ ∃ q, pcs[k]? = some q ∧ q.part = z ∧ q.state = "stock" := by
  unfold stockOf
  rw [List.mem_map]
  constructor
  · rintro ⟨y, hy, rfl⟩
    obtain ⟨h1, h2⟩ := List.mem_filter.mp hy
    rw [Bool.and_eq_true, decide_eq_true_eq, decide_eq_true_eq] at h2
    exact ⟨y.1, zip_at h1, h2.1, h2.2⟩
  · rintro ⟨q, h1, h2, h3⟩
    refine ⟨(q, k), List.mem_filter.mpr ⟨?_, by rw [Bool.and_eq_true, decide_eq_true_eq, decide_eq_true_eq]; exact ⟨h2, h3⟩⟩, rfl⟩
    exact List.mem_of_getElem? (getElem_zipIdx h1)
theorem stockOf_nd (pcs : List Pc) (z : Str) : (stockOf pcs z).Nodup := by
  unfold stockOf
  exact (List.Sublist.map _ List.filter_sublist).nodup (zip_nd pcs)
theorem lotsOf_lh : ∀ xs, lotsOf (lotHolds xs) = xs
  | [] => rfl
  | x :: xs => congrArg (x :: ·) (lotsOf_lh xs)
theorem pcsOf_lh : ∀ xs, pcsOf (lotHolds xs) = []
  | [] => rfl
  | _ :: xs => pcsOf_lh xs
theorem pcsOf_ph : ∀ ks, pcsOf (pcHolds ks) = ks
  | [] => rfl
  | k :: ks => congrArg (k :: ·) (pcsOf_ph ks)
theorem lotsOf_ph : ∀ ks, lotsOf (pcHolds ks) = []
  | [] => rfl
  | _ :: ks => lotsOf_ph ks
/-- what is taken of some needs -/
structure TakOk (fs : Fl) (names : List Str) (hs : List Hold) : Prop where
  pc : ∀ k ∈ pcsOf hs, ∃ q, fs.pcs[k]? = some q ∧ q.state = "stock" ∧ q.part ∈ names
  nd : (pcsOf hs).Nodup
  lot : ∀ x ∈ lotsOf hs, ∃ l, fs.lots[x.1]? = some l ∧ l.part ∈ names ∧ 0 < x.2 ∧ x.2 ≤ 9 ∧ x.2 ≤ l.left
  ndl : ((lotsOf hs).map (·.1)).Nodup
theorem taken_ok {fs : Fl} {z : Str} {m : Int} {hs : List Hold} (h0 : 0 ≤ m) (h9 : m ≤ 9) (h : fs.taken z m = some hs) : TakOk fs [z] hs ∧ hs.length ≤ 9 := by
  unfold Fl.taken at h
  split at h
  · split at h
    · cases h
      obtain ⟨a1, a2, a3⟩ := takeLots_ok fs.lots z h0
      refine ⟨⟨?_, ?_, ?_, ?_⟩, ?_⟩
      · rw [pcsOf_lh]; exact fun k hk => nomatch hk
      · rw [pcsOf_lh]; exact List.nodup_nil
      · rw [lotsOf_lh]
        intro x hx
        obtain ⟨l, h1, h2, h3, h4, h5⟩ := a1 x hx
        exact ⟨l, h1, List.mem_singleton.mpr h2, h3, by omega, h4⟩
      · rw [lotsOf_lh]; exact a2
      · unfold lotHolds
        rw [List.length_map]
        omega
    · cases h
  · split at h
    · cases h
      refine ⟨⟨?_, ?_, ?_, ?_⟩, ?_⟩
      · rw [pcsOf_ph]
        intro k hk
        obtain ⟨q, h1, h2, h3⟩ := mem_stockOf.mp (List.mem_of_mem_take hk)
        exact ⟨q, h1, h3, List.mem_singleton.mpr h2⟩
      · rw [pcsOf_ph]
        exact (List.take_sublist _ _).nodup (stockOf_nd _ _)
      · rw [lotsOf_ph]; exact fun x hx => nomatch hx
      · rw [lotsOf_ph]; exact List.nodup_nil
      · unfold pcHolds
        rw [List.length_map, List.length_take]
        omega
    · cases h
theorem takes_ok {fs : Fl} : ∀ {needs : List (Str × Int)}, (needs.map (·.1)).Nodup → (∀ x ∈ needs, 1 ≤ x.2 ∧ x.2 ≤ 9) → (∀ x ∈ needs, (fs.taken x.1 x.2).isSome = true) → TakOk fs (needs.map (·.1)) (fs.takes needs).flatten ∧ (fs.takes needs).flatten.length ≤ 9 * needs.length
  | [], _, _, _ => ⟨⟨(fun k hk => nomatch hk), List.nodup_nil, (fun x hx => nomatch hx), List.nodup_nil⟩, Nat.zero_le _⟩
  | x :: needs, nd, hm, hs => by
    obtain ⟨n1, n2⟩ := List.nodup_cons.mp nd
    obtain ⟨T, tl⟩ := takes_ok (fs := fs) n2 (fun y hy => hm y (.tail _ hy)) (fun y hy => hs y (.tail _ hy))
    obtain ⟨h, hh⟩ := Option.isSome_iff_exists.mp (hs x (.head _))
    obtain ⟨U, ul⟩ := taken_ok (by have := hm x (.head _); omega) (hm x (.head _)).2 hh
    have e : (fs.takes (x :: needs)).flatten = h ++ (fs.takes needs).flatten := by
      show ((fs.taken x.1 x.2).getD [] :: fs.takes needs).flatten = _
      rw [hh]
      rfl
    rw [e]
    refine ⟨⟨?_, ?_, ?_, ?_⟩, ?_⟩
    · rw [pcsOf_app]
      intro k hk
      rcases List.mem_append.mp hk with hk | hk
      · obtain ⟨q, q1, q2, q3⟩ := U.pc k hk
        exact ⟨q, q1, q2, by rw [List.mem_singleton.mp q3]; exact .head _⟩
      · obtain ⟨q, q1, q2, q3⟩ := T.pc k hk
        exact ⟨q, q1, q2, .tail _ q3⟩
    · rw [pcsOf_app]
      refine List.nodup_append.mpr ⟨U.nd, T.nd, fun a ha b hb z => ?_⟩
      subst z
      obtain ⟨q, q1, _, q3⟩ := U.pc a ha
      obtain ⟨q', q1', _, q3'⟩ := T.pc a hb
      rw [q1] at q1'
      cases q1'
      rw [List.mem_singleton.mp q3] at q3'
      exact n1 q3'
    · rw [lotsOf_app]
      intro k hk
      rcases List.mem_append.mp hk with hk | hk
      · obtain ⟨q, q1, q2, q3⟩ := U.lot k hk
        exact ⟨q, q1, by rw [List.mem_singleton.mp q2]; exact .head _, q3⟩
      · obtain ⟨q, q1, q2, q3⟩ := T.lot k hk
        exact ⟨q, q1, .tail _ q2, q3⟩
    · rw [lotsOf_app, List.map_append]
      refine List.nodup_append.mpr ⟨U.ndl, T.ndl, fun a ha b hb z => ?_⟩
      subst z
      obtain ⟨y, hy, rfl⟩ := List.mem_map.mp ha
      obtain ⟨y', hy', e'⟩ := List.mem_map.mp hb
      obtain ⟨q, q1, q2, _⟩ := U.lot y hy
      obtain ⟨q', q1', q2', _⟩ := T.lot y' hy'
      rw [e', q1] at q1'
      cases q1'
      rw [List.mem_singleton.mp q2] at q2'
      exact n1 q2'
    · rw [List.length_append, List.length_cons]
      omega
theorem lacking_none {fs : Fl} {needs : List (Str × Int)} (h : fs.lacking needs = none) : ∀ x ∈ needs, (fs.taken x.1 x.2).isSome = true := by
  intro x hx
  unfold Fl.lacking at h
  rw [Option.map_eq_none_iff, List.find?_eq_none] at h
  have := h x hx
  cases e : fs.taken x.1 x.2 with
  | none => rw [e] at this; simp at this
  | some v => rfl
/-! taken apart -/
def lprice (l : List Lt) (j : Nat) : Int := ((l[j]?).map (·.price)).getD 0
theorem stripLots : ∀ (xs : List (Nat × Int)) (l : List Lt) (h : Int), (∀ x ∈ xs, x.1 < l.length ∧ 0 ≤ x.2) →
    (xs.foldl stripLot (l, h)).1.length = l.length ∧ (∀ (j : Nat) (x : Lt), l[j]? = some x → ∃ y : Lt, (xs.foldl stripLot (l, h)).1[j]? = some y ∧ y.part = x.part ∧ y.price = x.price ∧ x.left ≤ y.left) ∧
      (xs.foldl stripLot (l, h)).2 = h + (xs.map fun x => x.2 * lprice l x.1).sum ∧ ((xs.foldl stripLot (l, h)).1.map lotWorth).sum = (l.map lotWorth).sum + (xs.map fun x => x.2 * lprice l x.1).sum
  | [], l, h, _ => ⟨rfl, fun j x hx => ⟨x, hx, rfl, rfl, Int.le_refl _⟩, (Int.add_zero _).symm, (Int.add_zero _).symm⟩
  | x :: xs, l, h, hl => by
    obtain ⟨hx, hx2⟩ := hl x (.head _)
    obtain ⟨y, hy⟩ : ∃ y, l[x.1]? = some y := ⟨_, List.getElem?_eq_getElem hx⟩
    have e : stripLot (l, h) x = (l.set x.1 { y with left := y.left + x.2 }, h + x.2 * y.price) := by unfold stripLot; dsimp only; rw [hy]
    have ep : ∀ j, lprice (l.set x.1 { y with left := y.left + x.2 }) j = lprice l j := fun j => by
      unfold lprice
      by_cases hj : j = x.1
      · subst hj; rw [List.getElem?_set_self hx, hy]; rfl
      · rw [List.getElem?_set_ne (Ne.symm hj)]
    have e1 : lprice l x.1 = y.price := by unfold lprice; rw [hy]; rfl
    obtain ⟨a1, a2, a3, a4⟩ := stripLots xs (l.set x.1 { y with left := y.left + x.2 }) (h + x.2 * y.price) fun z hz => by rw [List.length_set]; exact hl z (.tail _ hz)
    have es : (xs.map fun z => z.2 * lprice (l.set x.1 { y with left := y.left + x.2 }) z.1) = xs.map fun z => z.2 * lprice l z.1 := List.map_congr_left fun z _ => by rw [ep]
    rw [es] at a3 a4
    rw [List.foldl_cons, e]
    refine ⟨by rw [a1, List.length_set], fun j w hw => ?_, ?_, ?_⟩
    · by_cases hj : j = x.1
      · subst hj
        rw [hy] at hw
        cases hw
        obtain ⟨u, u1, u2, u3, u4⟩ := a2 x.1 _ (List.getElem?_set_self hx)
        exact ⟨u, u1, u2, u3, by dsimp only at u4; omega⟩
      · exact a2 j w (by rw [List.getElem?_set_ne (Ne.symm hj)]; exact hw)
    · rw [a3, List.map_cons, List.sum_cons, e1]
      omega
    · rw [a4, sum_set lotWorth hy, List.map_cons, List.sum_cons, e1]
      have : lotWorth { y with left := y.left + x.2 } = y.left * y.price + x.2 * y.price := Int.add_mul ..
      rw [this]
      show _ - y.left * y.price + _ + _ = _
      omega
def mkFree (q : Pc) : Pc := { q with state := "made", above := none }
def lcost (l : List Pc) (k : Nat) : Int := ((l[k]?).map (·.cost)).getD 0
theorem stripPcs : ∀ (ks : List Nat) (l : List Pc) (h : Int), ks.Nodup → (∀ k ∈ ks, ∃ q, l[k]? = some q ∧ q.state = "within") →
    (ks.foldl stripPc (l, h)).1.length = l.length ∧ (∀ i, (ks.foldl stripPc (l, h)).1[i]? = if i ∈ ks then (l[i]?).map mkFree else l[i]?) ∧
      (ks.foldl stripPc (l, h)).2 = h + (ks.map (lcost l)).sum ∧ ((ks.foldl stripPc (l, h)).1.map topCost).sum = (l.map topCost).sum + (ks.map (lcost l)).sum
  | [], l, h, _, _ => ⟨rfl, fun i => by simp, (Int.add_zero _).symm, (Int.add_zero _).symm⟩
  | k :: ks, l, h, nd, hl => by
    obtain ⟨n1, n2⟩ := List.nodup_cons.mp nd
    obtain ⟨q, hq, hw⟩ := hl k (.head _)
    have lk := (List.getElem?_eq_some_iff.mp hq).1
    have e : stripPc (l, h) k = (l.set k (mkFree q), h + q.cost) := by unfold stripPc; dsimp only; rw [hq]; rfl
    have oth : ∀ i, i ≠ k → (l.set k (mkFree q))[i]? = l[i]? := fun i hi => List.getElem?_set_ne (Ne.symm hi)
    obtain ⟨a1, a2, a3, a4⟩ := stripPcs ks (l.set k (mkFree q)) (h + q.cost) n2 fun k' hk' => by
      obtain ⟨q', h1, h2⟩ := hl k' (.tail _ hk')
      exact ⟨q', by rw [oth k' (fun z => n1 (z ▸ hk'))]; exact h1, h2⟩
    have es : ks.map (lcost (l.set k (mkFree q))) = ks.map (lcost l) := List.map_congr_left fun z hz => by unfold lcost; rw [oth z (fun y => n1 (y ▸ hz))]
    have e1 : lcost l k = q.cost := by unfold lcost; rw [hq]; rfl
    rw [es] at a3 a4
    rw [List.foldl_cons, e]
    refine ⟨by rw [a1, List.length_set], fun i => ?_, ?_, ?_⟩
    · rw [a2]
      by_cases hi : i = k
      · subst hi
        rw [if_neg n1, if_pos (.head _), List.getElem?_set_self lk, hq]
        rfl
      · rw [oth i hi]
        by_cases hm : i ∈ ks
        · rw [if_pos hm, if_pos (.tail _ hm)]
        · rw [if_neg hm, if_neg fun z => by rcases List.mem_cons.mp z with z | z; exact hi z; exact hm z]
    · rw [a3, List.map_cons, List.sum_cons, e1]
      omega
    · rw [a4, sum_set topCost hq, List.map_cons, List.sum_cons, e1]
      have t1 : topCost q = 0 := if_pos hw
      have t2 : topCost (mkFree q) = q.cost := if_neg made_ne
      rw [t1, t2]
      omega
end PM

namespace PM
open PySem L2 WK
theorem FlI.strip {fs : Fl} (I : FlI fs) {k : Nat} {p : Pc} (hp : fs.pcs[k]? = some p) (hps : p.state = "bad") : FlI (fs.strip k p) ∧ (fs.strip k p).lost = fs.lost + p.own := by
  have hpw : p.state ≠ "within" := by rw [hps]; decide
  have O := I.pc k p hp
  have lk := (List.getElem?_eq_some_iff.mp hp).1
  have hab := I.above_none hp hpw
  have hin : ∀ x ∈ pcsOf p.holds, ∃ q, fs.pcs[x]? = some q ∧ q.state = "within" := fun x hx => by
    obtain ⟨q, h1, h2⟩ := O.held x hx
    exact ⟨q, h1, I.within h1 h2⟩
  obtain ⟨a1, a2, a3, a4⟩ := stripLots (lotsOf p.holds) fs.lots 0 fun x hx => by
    obtain ⟨h1, h2, _⟩ := O.lots x hx
    exact ⟨h1, by omega⟩
  obtain ⟨b1, b2, b3, b4⟩ := stripPcs (pcsOf p.holds) fs.pcs ((lotsOf p.holds).foldl stripLot (fs.lots, 0)).2 O.nd hin
  have hnk : k ∉ pcsOf p.holds := I.nobody hp hpw hp
  have hcost : p.cost = p.own + (((lotsOf p.holds).map fun x => x.2 * lprice fs.lots x.1).sum + ((pcsOf p.holds).map (lcost fs.pcs)).sum) := by
    have := O.cost
    rw [hold_sum] at this
    exact this
  have hlost : (fs.strip k p).lost = fs.lost + p.own := by
    show fs.lost + (p.cost - _) = _
    rw [b3, a3, hcost]
    omega
  refine ⟨?_, hlost⟩
  let ls := ((lotsOf p.holds).foldl stripLot (fs.lots, 0)).1
  let ps := ((pcsOf p.holds).foldl stripPc (fs.pcs, ((lotsOf p.holds).foldl stripLot (fs.lots, 0)).2)).1
  let p' : Pc := { p with cost := 0, holds := [], state := "stripped", own := 0 }
  have hlots : (fs.strip k p).lots = ls := rfl
  have hpcs : (fs.strip k p).pcs = ps.set k p' := rfl
  have hkps : k < ps.length := by rw [show ps.length = _ from b1]; exact lk
  have look : ∀ i, (fs.strip k p).pcs[i]? = if i = k then some p' else if i ∈ pcsOf p.holds then (fs.pcs[i]?).map mkFree else fs.pcs[i]? := fun i => by
    rw [hpcs]
    by_cases h : i = k
    · subst h; rw [List.getElem?_set_self hkps, if_pos rfl]
    · rw [List.getElem?_set_ne (Ne.symm h), if_neg h]
      exact b2 i
  have pr : ∀ i, (fs.strip k p).price i = fs.price i := fun i => by
    unfold Fl.price
    rw [hlots]
    cases e : fs.lots[i]? with
    | none =>
      have : ls[i]? = none := List.getElem?_eq_none_iff.mpr (by rw [show ls.length = _ from a1]; exact List.getElem?_eq_none_iff.mp e)
      rw [this]
    | some x =>
      obtain ⟨y, y1, _, y3, _⟩ := a2 i x e
      rw [show ls[i]? = some y from y1]
      exact y3
  -- what others hold stays as it is
  have keep : ∀ (j : Nat) (a a' : Pc), fs.pcs[j]? = some a → j ≠ k → a'.part = a.part → a'.holds = a.holds → a'.at_ = a.at_ → a'.cost = a.cost → a'.own = a.own → a'.state ∈ stList → (a'.above = none ↔ a'.state ≠ "within") →
      (∀ k', a'.above = some k' → ∃ q2, (fs.strip k p).pcs[k']? = some q2 ∧ j ∈ pcsOf q2.holds) → PcOk (fs.strip k p) j a' := fun j a a' ha hj g1 g2 g3 g4 g5 g6 g7 g8 =>
    (I.pc j a ha).keep rfl a1 pr g1 g2 g3 g4 g5 g6 g7 (fun k' hk' q2 h1 h2 => by
      have m1 : k' ≠ k := fun z => I.nobody hp hpw ha (z ▸ hk')
      have m2 : k' ∉ pcsOf p.holds := fun z => by
        obtain ⟨q3, h3, h4⟩ := O.held k' z
        rw [h1] at h3
        cases h3
        rw [h2] at h4
        exact hj (Option.some.inj h4)
      exact ⟨q2, by rw [look, if_neg m1, if_neg m2]; exact h1, rfl, h2, rfl⟩) g8
  refine ⟨I.good, I.six, I.rate, fun j a ha => ?_, fun j y hy => ?_, ?_, ?_⟩
  · rw [look] at ha
    by_cases h1 : j = k
    · rw [if_pos h1] at ha
      cases ha
      subst h1
      obtain ⟨rr, r1, r2, r3, r4, r5⟩ := O.row
      exact ⟨⟨rr, r1, r2, r3, r4, fun x hx => nomatch hx⟩, in_stripped, ⟨fun _ => by show ("stripped" : Str) ≠ "within"; decide, fun _ => hab⟩, (fun x hx => nomatch hx), (fun k' hk' => absurd (show p.above = some k' from hk') (by rw [hab]; exact fun z => nomatch z)), List.nodup_nil, List.nodup_nil, (fun x hx => nomatch hx), rfl, Nat.zero_le _, Int.le_refl _⟩
    · rw [if_neg h1] at ha
      by_cases h2 : j ∈ pcsOf p.holds
      · rw [if_pos h2] at ha
        obtain ⟨q, hq, e⟩ := Option.map_eq_some_iff.mp ha
        subst e
        exact keep j q (mkFree q) hq h1 rfl rfl rfl rfl rfl in_made ⟨fun _ => made_ne, fun _ => rfl⟩ fun k' hk' => nomatch hk'
      · rw [if_neg h2] at ha
        have Oa := I.pc j a ha
        refine keep j a a ha h1 rfl rfl rfl rfl rfl Oa.st Oa.up fun k' hk' => ?_
        obtain ⟨q2, g1, g2⟩ := Oa.upper k' hk'
        by_cases e1 : k' = k
        · subst e1; rw [hp] at g1; cases g1; exact absurd g2 h2
        · by_cases e2 : k' ∈ pcsOf p.holds
          · exact ⟨mkFree q2, by rw [look, if_neg e1, if_pos e2, g1]; rfl, g2⟩
          · exact ⟨q2, by rw [look, if_neg e1, if_neg e2]; exact g1, g2⟩
  · replace hy : ls[j]? = some y := hy
    obtain ⟨x, hx⟩ : ∃ x, fs.lots[j]? = some x := ⟨_, List.getElem?_eq_getElem (by rw [← show ls.length = _ from a1]; exact (List.getElem?_eq_some_iff.mp hy).1)⟩
    obtain ⟨y', y1, y2, y3, y4⟩ := a2 j x hx
    rw [hy] at y1
    cases y1
    obtain ⟨l1, l2, l3, l4⟩ := I.lot j x hx
    exact ⟨by omega, by omega, by omega, by rw [y2]; exact l4⟩
  · have hmn := I.money
    unfold Fl.worth at hmn ⊢
    show fs.spent = (ls.map lotWorth).sum + ((ps.set k p').map topCost).sum + (fs.strip k p).lost
    have hkp : ps[k]? = some p := by
      rw [show ps[k]? = _ from b2 k, if_neg hnk]
      exact hp
    rw [sum_set topCost hkp, show (ls.map lotWorth).sum = _ from a4, show (ps.map topCost).sum = _ from b4, hlost]
    have t1 : topCost p = p.cost := if_neg hpw
    have t2 : topCost p' = 0 := if_neg (by show ("stripped" : Str) ≠ "within"; decide)
    rw [t1, t2, hcost]
    omega
  · show ls.length + (ps.set k p').length ≤ (fs.book ++ [_]).length
    rw [List.length_set, show ls.length = _ from a1, show ps.length = _ from b1, List.length_append]
    have := I.few
    omega
theorem making_ne : ("making" : Str) ≠ "within" := by decide
theorem making_ns : ("making" : Str) ≠ "stock" := by decide
theorem within_nm : ("within" : Str) ≠ "making" := by decide
theorem made_nm : ("made" : Str) ≠ "making" := by decide
theorem bad_nm : ("bad" : Str) ≠ "making" := by decide
theorem stock_nm : ("stock" : Str) ≠ "making" := by decide
theorem stripped_nm : ("stripped" : Str) ≠ "making" := by decide
theorem scrap_nm : ("scrap" : Str) ≠ "making" := by decide
theorem sold_nm : ("sold" : Str) ≠ "making" := by decide
/-! a piece begun -/
theorem FlI.addPc {fs : Fl} (I : FlI fs) {z : Str} {r : PRow} (hr : PM.rowOf fs.rs z = some r) (hnb : (r.needs.isEmpty && r.steps.isEmpty) = false) (d : Deed) : FlI { fs with pcs := fs.pcs ++ [newPc z], book := fs.book ++ [d] } := by
  have look : ∀ i, i < fs.pcs.length → (fs.pcs ++ [newPc z])[i]? = fs.pcs[i]? := fun i hi => List.getElem?_append_left hi
  refine ⟨I.good, I.six, I.rate, fun j a ha => ?_, I.lot, ?_, ?_⟩
  · replace ha : (fs.pcs ++ [newPc z])[j]? = some a := ha
    by_cases h : j < fs.pcs.length
    · rw [look j h] at ha
      have Oa := I.pc j a ha
      refine Oa.keep rfl rfl (fun _ => rfl) rfl rfl rfl rfl rfl Oa.st Oa.up (fun k' hk' q2 g1 g2 => ⟨q2, ?_, rfl, g2, rfl⟩) fun k' hk' => ?_
      · show (fs.pcs ++ [newPc z])[k']? = _
        rw [look k' (List.getElem?_eq_some_iff.mp g1).1]
        exact g1
      · obtain ⟨q2, g1, g2⟩ := Oa.upper k' hk'
        exact ⟨q2, by show (fs.pcs ++ [newPc z])[k']? = _; rw [look k' (List.getElem?_eq_some_iff.mp g1).1]; exact g1, g2⟩
    · have hj : j = fs.pcs.length := by
        have := (List.getElem?_eq_some_iff.mp ha).1
        rw [List.length_append, List.length_singleton] at this
        omega
      subst hj
      rw [List.getElem?_append_right (Nat.le_refl _), Nat.sub_self] at ha
      cases ha
      exact ⟨⟨r, hr, hnb, Int.le_refl _, by show (0 : Int) ≤ _; omega, fun x hx => nomatch hx⟩, (by decide : ("making" : Str) ∈ stList), ⟨fun _ => by show ("making" : Str) ≠ "within"; decide, fun _ => rfl⟩, (fun x hx => nomatch hx), (fun k' hk' => nomatch hk'), List.nodup_nil, List.nodup_nil, (fun x hx => nomatch hx), rfl, Nat.zero_le _, Int.le_refl _⟩
  · have hmn := I.money
    unfold Fl.worth at hmn ⊢
    dsimp only
    rw [List.map_append, List.sum_append]
    have : (List.map topCost [newPc z]).sum = 0 := rfl
    rw [this]
    omega
  · show fs.lots.length + (fs.pcs ++ [newPc z]).length ≤ (fs.book ++ [d]).length
    rw [List.length_append, List.length_append, List.length_singleton, List.length_singleton]
    have := I.few
    omega
theorem give_book (n : Nat) (h : Hold) (fs : Fl) (b : List Deed) : ({ fs with book := b } : Fl).give n h = { fs.give n h with book := b } := by
  unfold Fl.give
  cases h with
  | lot j m =>
    dsimp only
    cases fs.lots[j]? <;> cases fs.pcs[n]? <;> rfl
  | pc k =>
    dsimp only
    cases fs.pcs[k]? <;> cases fs.pcs[n]? <;> rfl
theorem giveAll_book (n : Nat) : ∀ (hs : List Hold) (fs : Fl) (b : List Deed), ({ fs with book := b } : Fl).giveAll n hs = { fs.giveAll n hs with book := b }
  | [], fs, b => rfl
  | h :: hs, fs, b => by
    show (({ fs with book := b } : Fl).give n h).giveAll n hs = { (fs.give n h).giveAll n hs with book := b }
    rw [give_book, giveAll_book n hs]
theorem modify_at {α : Type} {l : List α} {k : Nat} {x : α} {f : α → α} (h : l[k]? = some x) : l.modify k f = l.set k (f x) := by
  apply List.ext_getElem?
  intro j
  rw [List.getElem?_modify, List.getElem?_set]
  by_cases e : k = j
  · subst e
    have hk := (List.getElem?_eq_some_iff.mp h).1
    have e2 := (List.getElem?_eq_some_iff.mp h).2
    simp [h, hk, e2]
  · simp [e]
theorem good_needs {rs : List PRow} (G : GoodBook rs) {z : Str} {r : PRow} (h : PM.rowOf rs z = some r) : r.needs.length ≤ 12 ∧ (r.needs.map (·.1)).Nodup ∧ (∀ x ∈ r.needs, 1 ≤ x.2 ∧ x.2 ≤ 9) ∧ r.steps.length ≤ 5 ∧ ∀ x ∈ r.steps, (0 ≤ x.1 ∧ x.1 < 6) ∧ 1 ≤ x.2 ∧ x.2 ≤ 99 := by
  obtain ⟨hm, hn⟩ := rowOf_mem h
  obtain ⟨i, hi⟩ := List.getElem?_of_mem hm
  have R := G.row i r hi
  refine ⟨?_, R.nd, R.many, R.few, R.steps⟩
  have := nodup_sub_length R.nd (l' := (rs.take i).map (·.name)) (by
    intro x hx
    obtain ⟨y, hy, rfl⟩ := List.mem_map.mp hx
    exact R.known y hy)
  rw [List.length_map, List.length_map, List.length_take] at this
  have := G.len
  omega
theorem FlOk.begin_ {fs : Fl} (I : FlOk fs) {z : Str} {r : PRow} (hr : PM.rowOf fs.rs z = some r) (hnb : (r.needs.isEmpty && r.steps.isEmpty) = false) (hl : fs.lacking r.needs = none) :
    FlOk (fs.begin_ z r.steps.isEmpty (fs.takes r.needs).flatten) ∧ PutOk { fs with pcs := fs.pcs ++ [newPc z] } fs.pcs.length (newPc z) (fs.takes r.needs).flatten := by
  obtain ⟨g1, g2, g3, g4, g5⟩ := good_needs I.i.good hr
  obtain ⟨T, tl⟩ := takes_ok (fs := fs) g2 g3 (lacking_none hl)
  generalize hhs : (fs.takes r.needs).flatten = hs at T tl
  have I0 := I.i.addPc hr hnb (.begin_ z)
  have h0 : (fs.pcs ++ [newPc z])[fs.pcs.length]? = some (newPc z) := List.getElem?_concat_length
  have P0 : PutOk { fs with pcs := fs.pcs ++ [newPc z] } fs.pcs.length (newPc z) hs := by
    refine ⟨fun k hk => ?_, T.nd, fun x hx => ?_, T.ndl, by show 0 + hs.length ≤ 200; omega⟩
    · obtain ⟨q, q1, q2, q3⟩ := T.pc k hk
      refine ⟨q, ?_, q2, fun r' hr' => ?_⟩
      · show (fs.pcs ++ [newPc z])[k]? = _
        rw [List.getElem?_append_left (List.getElem?_eq_some_iff.mp q1).1]
        exact q1
      · have : r' = r := Option.some.inj (hr'.symm.trans hr)
        rw [this]
        exact q3
    · obtain ⟨l, l1, _, l3⟩ := T.lot x hx
      exact ⟨l, l1, l3⟩
  have P1 : PutOk { fs with pcs := fs.pcs ++ [newPc z], book := fs.book ++ [.begin_ z] } fs.pcs.length (newPc z) hs := ⟨P0.pc, P0.nd, P0.lot, P0.ndl, P0.len⟩
  obtain ⟨J, j1, j2, ⟨c, j3⟩, j4⟩ := FlI.giveAll I0 h0 making_ne making_ns P1
  refine ⟨?_, P0⟩
  have fr := giveAll_frame fs.pcs.length hs { fs with pcs := fs.pcs ++ [newPc z], book := fs.book ++ [.begin_ z] }
  have eb : ({ fs with pcs := fs.pcs ++ [newPc z], book := fs.book ++ [.begin_ z] } : Fl).giveAll fs.pcs.length hs = { ({ fs with pcs := fs.pcs ++ [newPc z] } : Fl).giveAll fs.pcs.length hs with book := fs.book ++ [.begin_ z] } := giveAll_book fs.pcs.length hs { fs with pcs := fs.pcs ++ [newPc z] } _
  have fb := (giveAll_frame fs.pcs.length hs { fs with pcs := fs.pcs ++ [newPc z] }).2.2.1
  generalize hG : ({ fs with pcs := fs.pcs ++ [newPc z], book := fs.book ++ [.begin_ z] } : Fl).giveAll fs.pcs.length hs = G at J j1 j2 j3 j4 eb fr
  have ebeg : fs.begin_ z r.steps.isEmpty hs = { G with pcs := if r.steps.isEmpty = true then G.pcs.set fs.pcs.length { newPc z with holds := (newPc z).holds ++ hs, cost := c, state := "made" } else G.pcs } := by
    unfold Fl.begin_
    dsimp only
    rw [fb]
    rw [eb] at j3 ⊢
    dsimp only at j3 ⊢
    rw [modify_at j3]
  rw [ebeg]
  have hns : G.nSteps (newPc z) = r.steps.length := by
    unfold Fl.nSteps
    rw [fr.1]
    show (match PM.rowOf fs.rs z with | some r => r.steps.length | none => 0) = _
    rw [hr]
  have oth : ∀ (i : Nat) (q' : Pc), i ≠ fs.pcs.length → G.pcs[i]? = some q' → q'.state = "making" → q'.at_ < G.nSteps q' := fun i q' hi hq' hm => by
    have hil : i < fs.pcs.length := by
      have := (List.getElem?_eq_some_iff.mp hq').1
      rw [j1] at this
      have h2 : (fs.pcs ++ [newPc z]).length = fs.pcs.length + 1 := by rw [List.length_append]; rfl
      rw [h2] at this
      omega
    obtain ⟨q, hq⟩ : ∃ q, fs.pcs[i]? = some q := ⟨_, List.getElem?_eq_getElem hil⟩
    obtain ⟨q'', e1, e2, e3, e4⟩ := j4 i q hi (by show (fs.pcs ++ [newPc z])[i]? = _; rw [List.getElem?_append_left hil]; exact hq)
    rw [hq'] at e1
    cases e1
    rcases e4 with e4 | e4
    · have hm2 : q.state = "making" := by rw [← e4]; exact hm
      have := I.mak i q hq hm2
      have en : G.nSteps q' = fs.nSteps q := by unfold Fl.nSteps; rw [e2, fr.1]
      rw [en, e3]
      exact this
    · rw [e4] at hm
      exact absurd hm (by decide)
  by_cases hs0 : r.steps.isEmpty = true
  · rw [if_pos hs0]
    have ln := (List.getElem?_eq_some_iff.mp j3).1
    refine ⟨?_, fun i q hq hm => ?_⟩
    · exact J.upd1 j3 (p' := { newPc z with holds := (newPc z).holds ++ hs, cost := c, state := "made" }) making_ne rfl rfl rfl in_made made_ne rfl (Int.le_refl _) ⟨Int.le_refl _, by show (0 : Int) ≤ _; omega⟩ (sp := G.spent) (bk := G.book) (by show _ = c - c; omega) (Nat.le_refl _)
    · replace hq : (G.pcs.set fs.pcs.length { newPc z with holds := (newPc z).holds ++ hs, cost := c, state := "made" })[i]? = some q := hq
      by_cases hi : i = fs.pcs.length
      · subst hi
        rw [List.getElem?_set_self ln] at hq
        cases hq
        exact absurd hm made_nm
      · rw [List.getElem?_set_ne (Ne.symm hi)] at hq
        exact oth i q hi hq hm
  · rw [if_neg hs0]
    refine ⟨J, fun i q hq hm => ?_⟩
    by_cases hi : i = fs.pcs.length
    · subst hi
      replace hq : G.pcs[fs.pcs.length]? = some q := hq
      rw [j3] at hq
      cases hq
      show (0 : Int) < (G.nSteps (newPc z) : Int)
      rw [hns]
      cases e : r.steps with
      | nil => rw [e] at hs0; exact absurd rfl hs0
      | cons a l => simp only [List.length_cons]; omega
    · exact oth i q hi hq hm
end PM

namespace PM
open PySem L2 WK
theorem nSteps_eq {fs fs' : Fl} {p q : Pc} (h1 : fs'.rs = fs.rs) (h2 : p.part = q.part) : fs'.nSteps p = fs.nSteps q := by unfold Fl.nSteps; rw [h1, h2]
theorem FlOk.upd1 {fs : Fl} (I : FlOk fs) {k : Nat} {p p' : Pc} (hp : fs.pcs[k]? = some p) (hw : p.state ≠ "within") (e1 : p'.part = p.part) (e2 : p'.holds = p.holds) (e3 : p'.above = p.above) (hs : p'.state ∈ stList) (hw' : p'.state ≠ "within")
    (hc : p'.cost - p'.own = p.cost - p.own) (ho : 0 ≤ p'.own) (ha : 0 ≤ p'.at_ ∧ p'.at_ ≤ fs.nSteps p) {sp : Int} {bk : List Deed} (hsp : sp - fs.spent = p'.cost - p.cost) (hb : fs.book.length ≤ bk.length) (hm : p'.state = "making" → p'.at_ < fs.nSteps p) : FlOk { fs with pcs := fs.pcs.set k p', spent := sp, book := bk } := by
  refine ⟨I.i.upd1 hp hw e1 e2 e3 hs hw' hc ho ha hsp hb, fun i q hq => ?_⟩
  replace hq : (fs.pcs.set k p')[i]? = some q := hq
  by_cases hi : i = k
  · subst hi
    rw [List.getElem?_set_self (List.getElem?_eq_some_iff.mp hp).1] at hq
    cases hq
    intro hmk
    rw [nSteps_eq (fs := fs) (fs' := { fs with pcs := fs.pcs.set i p', spent := sp, book := bk }) (q := p) rfl e1]
    exact hm hmk
  · rw [List.getElem?_set_ne (Ne.symm hi)] at hq
    exact I.mak i q hq
theorem FlI.nSteps {fs : Fl} (I : FlI fs) {k : Nat} {p : Pc} (hp : fs.pcs[k]? = some p) : ∃ r, PM.rowOf fs.rs p.part = some r ∧ fs.nSteps p = r.steps.length ∧ 0 ≤ p.at_ ∧ p.at_ ≤ fs.nSteps p ∧ fs.nSteps p ≤ 5 := by
  obtain ⟨r, r1, r2, r3, r4, r5⟩ := (I.pc k p hp).row
  have e : fs.nSteps p = r.steps.length := by unfold Fl.nSteps; rw [r1]
  refine ⟨r, r1, e, r3, by rw [e]; exact r4, ?_⟩
  rw [e]
  exact (good_needs I.good r1).2.2.2.1
/-- a deed of a piece that keeps its costs -/
theorem FlOk.put {fs : Fl} (I : FlOk fs) {k : Nat} {p p' : Pc} (d : Deed) (hp : fs.pcs[k]? = some p) (hw : p.state ≠ "within") (e1 : p'.part = p.part) (e2 : p'.holds = p.holds) (e3 : p'.above = p.above) (e4 : p'.cost = p.cost) (e5 : p'.own = p.own) (hs : p'.state ∈ stList) (hw' : p'.state ≠ "within")
    (ha : 0 ≤ p'.at_ ∧ p'.at_ ≤ fs.nSteps p) (hm : p'.state = "making" → p'.at_ < fs.nSteps p) : FlOk (fs.put k p' d) :=
  I.upd1 hp hw e1 e2 e3 hs hw' (by rw [e4, e5]) (by rw [e5]; exact (I.i.pc k p hp).own) ha (sp := fs.spent) (bk := fs.book ++ [d]) (by rw [e4]; omega) (by rw [List.length_append]; omega) hm
theorem FlOk.work {fs : Fl} (I : FlOk fs) {k : Nat} {p : Pc} (hp : fs.pcs[k]? = some p) (hst : p.state = "making") {c : Int} (hc : 0 ≤ c) : FlOk (fs.work k p c (fs.nSteps p)) := by
  obtain ⟨r, r1, r2, r3, r4, r5⟩ := I.i.nSteps hp
  have hmk := I.mak k p hp hst
  have hst2 : (p.work c (fs.nSteps p)).state = if p.at_ + 1 = (fs.nSteps p : Int) then ("made" : Str) else p.state := rfl
  refine I.upd1 (p' := p.work c (fs.nSteps p)) hp (by rw [hst]; exact making_ne) rfl rfl rfl ?_ ?_ ?_ ?_ ?_ ?_ ?_ ?_
  · rw [hst2, hst]; split
    · exact in_made
    · decide
  · rw [hst2, hst]; split
    · exact made_ne
    · exact making_ne
  · show p.cost + c - (p.own + c) = _; omega
  · show 0 ≤ p.own + c; have := (I.i.pc k p hp).own; omega
  · show 0 ≤ p.at_ + 1 ∧ p.at_ + 1 ≤ _; omega
  · show fs.spent + c - fs.spent = p.cost + c - p.cost; omega
  · rw [List.length_append]; omega
  · intro h
    show p.at_ + 1 < _
    rw [hst2] at h
    by_cases e : p.at_ + 1 = (fs.nSteps p : Int)
    · rw [if_pos e] at h; exact absurd h made_nm
    · omega
theorem FlOk.swap {fs : Fl} (I : FlOk fs) {k o n : Nat} {p q r : Pc} (hp : fs.pcs[k]? = some p) (hq : fs.pcs[o]? = some q) (hr : fs.pcs[n]? = some r) (hps : p.state = "bad") (hrs : r.state = "stock") (hm : o ∈ pcsOf p.holds) (hpt : r.part = q.part) : FlOk (fs.swap k o n p q r) := by
  refine ⟨I.i.swap hp hq hr hps hrs hm hpt, fun i a ha hmk => ?_⟩
  replace ha : (((fs.pcs.set k { p with holds := replPc o n p.holds, cost := p.cost + (r.cost - q.cost), state := "made" }).set o { q with state := "bad", above := none }).set n { r with state := "within", above := some k })[i]? = some a := ha
  by_cases h1 : i = n
  · subst h1
    rw [List.getElem?_set_self (by rw [List.length_set, List.length_set]; exact (List.getElem?_eq_some_iff.mp hr).1)] at ha
    cases ha
    exact absurd hmk within_nm
  · rw [List.getElem?_set_ne (Ne.symm h1)] at ha
    by_cases h2 : i = o
    · subst h2
      rw [List.getElem?_set_self (by rw [List.length_set]; exact (List.getElem?_eq_some_iff.mp hq).1)] at ha
      cases ha
      exact absurd hmk bad_nm
    · rw [List.getElem?_set_ne (Ne.symm h2)] at ha
      by_cases h3 : i = k
      · subst h3
        rw [List.getElem?_set_self (List.getElem?_eq_some_iff.mp hp).1] at ha
        cases ha
        exact absurd hmk made_nm
      · rw [List.getElem?_set_ne (Ne.symm h3)] at ha
        exact I.mak i a ha hmk
theorem FlOk.strip {fs : Fl} (I : FlOk fs) {k : Nat} {p : Pc} (hp : fs.pcs[k]? = some p) (hps : p.state = "bad") : FlOk (fs.strip k p) := by
  refine ⟨(I.i.strip hp hps).1, fun i a ha hmk => ?_⟩
  have hin : ∀ x ∈ pcsOf p.holds, ∃ q, fs.pcs[x]? = some q ∧ q.state = "within" := fun x hx => by
    obtain ⟨q, h1, h2⟩ := (I.i.pc k p hp).held x hx
    exact ⟨q, h1, I.i.within h1 h2⟩
  obtain ⟨b1, b2, b3, b4⟩ := stripPcs (pcsOf p.holds) fs.pcs ((lotsOf p.holds).foldl stripLot (fs.lots, 0)).2 (I.i.pc k p hp).nd hin
  replace ha : ((((pcsOf p.holds).foldl stripPc (fs.pcs, ((lotsOf p.holds).foldl stripLot (fs.lots, 0)).2)).1).set k { p with cost := 0, holds := [], state := "stripped", own := 0 })[i]? = some a := ha
  by_cases h3 : i = k
  · subst h3
    rw [List.getElem?_set_self (by rw [b1]; exact (List.getElem?_eq_some_iff.mp hp).1)] at ha
    cases ha
    exact absurd hmk stripped_nm
  · rw [List.getElem?_set_ne (Ne.symm h3), b2] at ha
    by_cases h4 : i ∈ pcsOf p.holds
    · rw [if_pos h4] at ha
      obtain ⟨q, hq, e⟩ := Option.map_eq_some_iff.mp ha
      subst e
      exact absurd hmk made_nm
    · rw [if_neg h4] at ha
      exact I.mak i a ha hmk
theorem FlOk.buy {fs : Fl} (I : FlOk fs) {z : Str} {m pr : Int} (hz : isBought fs.rs z = true) (hm : 0 ≤ m) (hp : 0 ≤ pr ∧ pr ≤ 9999) : FlOk (fs.buy z m pr) := by
  have look : ∀ i, i < fs.lots.length → (fs.lots ++ [⟨z, m, pr⟩])[i]? = fs.lots[i]? := fun i hi => List.getElem?_append_left hi
  refine ⟨⟨I.i.good, I.i.six, I.i.rate, fun k p h => ?_, fun j x hx => ?_, ?_, ?_⟩, I.mak⟩
  · have O := I.i.pc k p h
    refine ⟨O.row, O.st, O.up, O.held, O.upper, O.nd, O.ndl, fun x hx => ?_, ?_, O.len, O.own⟩
    · obtain ⟨h1, h2⟩ := O.lots x hx
      refine ⟨?_, h2⟩
      show x.1 < (fs.lots ++ [_]).length
      rw [List.length_append]
      omega
    · rw [holdCost_congr (fs := fs) (fs' := fs.buy z m pr) (fun x hx => ?_) fun _ _ => rfl]
      · exact O.cost
      · unfold Fl.price
        show (((fs.lots ++ [⟨z, m, pr⟩])[x.1]?).map (·.price)).getD 0 = _
        rw [look x.1 (O.lots x hx).1]
  · replace hx : (fs.lots ++ [⟨z, m, pr⟩])[j]? = some x := hx
    by_cases h : j < fs.lots.length
    · rw [look j h] at hx
      exact I.i.lot j x hx
    · have hj : j = fs.lots.length := by
        have := (List.getElem?_eq_some_iff.mp hx).1
        rw [List.length_append, List.length_singleton] at this
        omega
      subst hj
      rw [List.getElem?_append_right (Nat.le_refl _), Nat.sub_self] at hx
      cases hx
      exact ⟨hm, hp.1, hp.2, hz⟩
  · have := I.i.money
    unfold Fl.worth at this ⊢
    show fs.spent + m * pr = ((fs.lots ++ [_]).map lotWorth).sum + _ + _
    rw [List.map_append, List.sum_append]
    have e : (List.map lotWorth [⟨z, m, pr⟩]).sum = m * pr := Int.add_zero _
    rw [e]
    show _ = _ + (fs.pcs.map topCost).sum + fs.lost
    omega
  · show (fs.lots ++ [_]).length + fs.pcs.length ≤ (fs.book ++ [_]).length
    rw [List.length_append, List.length_append, List.length_singleton, List.length_singleton]
    have := I.i.few
    omega
theorem pcAt_some {fs : Fl} {k : Int} {p : Pc} (h : fs.pcAt k = some p) : 0 ≤ k ∧ fs.pcs[k.toNat]? = some p := by
  unfold Fl.pcAt at h
  split at h
  · exact ⟨by assumption, h⟩
  · cases h
theorem FlOk.step {fs : Fl} (I : FlOk fs) {k : Nat} {p : Pc} (hp : fs.pcs[k]? = some p) (hst : p.state = "making") : ∃ (r : PRow) (j mc : Nat) (mi rate : Int), PM.rowOf fs.rs p.part = some r ∧ p.at_ = (j : Int) ∧ r.steps[j]? = some ((mc : Int), mi) ∧ fs.rates[mc]? = some rate ∧ fs.stepAt p = ((mc : Int), mi) ∧ fs.rateOf (mc : Int) = rate ∧ fs.nSteps p = r.steps.length ∧ 0 ≤ mi * rate ∧ mi ≤ 99 ∧ 1 ≤ mi ∧ 0 ≤ rate ∧ rate ≤ 99 := by
  obtain ⟨r, r1, r2, r3, r4, r5⟩ := I.i.nSteps hp
  have hmk := I.mak k p hp hst
  rw [r2] at hmk
  obtain ⟨j, hj⟩ : ∃ j : Nat, p.at_ = (j : Int) := ⟨p.at_.toNat, by omega⟩
  obtain ⟨⟨mcI, mi⟩, hs⟩ : ∃ y, r.steps[j]? = some y := ⟨_, List.getElem?_eq_getElem (by omega)⟩
  obtain ⟨⟨s1, s2⟩, s3, s4⟩ := (good_needs I.i.good r1).2.2.2.2 _ (List.mem_of_getElem? hs)
  dsimp only at s1 s2 s3 s4
  obtain ⟨mc, rfl⟩ : ∃ mc : Nat, mcI = (mc : Int) := ⟨mcI.toNat, by omega⟩
  obtain ⟨rate, hr⟩ : ∃ y, fs.rates[mc]? = some y := ⟨_, List.getElem?_eq_getElem (by rw [I.i.six]; omega)⟩
  obtain ⟨t1, t2⟩ := I.i.rate rate (List.mem_of_getElem? hr)
  refine ⟨r, j, mc, mi, rate, r1, hj, hs, hr, ?_, ?_, r2, Int.mul_nonneg (by omega) t1, s4, s3, t1, t2⟩
  · unfold Fl.stepAt
    rw [r1, hj]
    show r.steps.getD (j : Int).toNat (0, 0) = _
    rw [Int.toNat_natCast, List.getD_eq_getElem?_getD, hs]
    rfl
  · unfold Fl.rateOf
    rw [Int.toNat_natCast, List.getD_eq_getElem?_getD, hr]
    rfl
theorem FlOk.onPc {fs : Fl} (I : FlOk fs) {k : Int} {ss : List Str} {f : Pc → Ans × Fl} (h : ∀ p, 0 ≤ k → fs.pcs[k.toNat]? = some p → p.state ∈ ss → FlOk (f p).2) : FlOk (fs.onPc k ss f).2 := by
  unfold Fl.onPc
  cases e : fs.pcAt k with
  | none => exact I
  | some p =>
    obtain ⟨h1, h2⟩ := pcAt_some e
    dsimp only
    split
    · exact h p h1 h2 (by assumption)
    · exact I
theorem in2 {z a b : Str} (h : z ∈ [a, b]) : z = a ∨ z = b := by simpa using h
theorem in1 {z a : Str} (h : z ∈ [a]) : z = a := by simpa using h
theorem in4 {z a b c d : Str} (h : z ∈ [a, b, c, d]) : z = a ∨ z = b ∨ z = c ∨ z = d := by simpa using h
theorem FlOk.mDone {fs : Fl} (I : FlOk fs) (d : Deed) : FlOk (fs.mDone d).2 := by
  have at_ok : ∀ {k : Nat} {p : Pc}, fs.pcs[k]? = some p → 0 ≤ p.at_ ∧ p.at_ ≤ fs.nSteps p := fun hp => by
    obtain ⟨r, r1, r2, r3, r4, r5⟩ := I.i.nSteps hp
    exact ⟨r3, r4⟩
  cases d with
  | buy z m pr =>
    show FlOk (fs.mBuy z m pr).2
    unfold Fl.mBuy
    split
    · split
      · rename_i h1 h2
        exact I.buy h1 (by omega) h2.2
      · exact I
    · exact I
  | begin_ z =>
    show FlOk (fs.mBegin z).2
    unfold Fl.mBegin
    cases e : PM.rowOf fs.rs z with
    | none => exact I
    | some r =>
      dsimp only
      split
      · exact I
      · rename_i h
        cases e2 : fs.lacking r.needs with
        | some y => exact I
        | none => exact (I.begin_ e (by simpa using h) e2).1
  | work k =>
    refine I.onPc fun p h0 hp hs => ?_
    have hst := in1 hs
    obtain ⟨r, j, mc, mi, rate, s1, s2, s3, s4, s5, s6, s7, s8, _⟩ := I.step hp hst
    show FlOk (fs.work _ p _ (fs.nSteps p))
    rw [s5]
    dsimp only
    rw [s6]
    exact I.work hp hst s8
  | test k g =>
    refine I.onPc fun p h0 hp hs => ?_
    have hw : p.state ≠ "within" := by rcases in2 hs with h | h <;> rw [h] <;> decide
    refine I.put (p' := { p with state := if g = true then "stock" else "bad" }) _ hp hw rfl rfl rfl rfl rfl ?_ ?_ (at_ok (p := p) hp) ?_
    · cases g
      · exact in_bad
      · exact (by decide : ("stock" : Str) ∈ stList)
    · cases g
      · exact bad_ne
      · exact stock_ne
    · intro h
      cases g
      · exact absurd h bad_nm
      · exact absurd h stock_nm
  | rework k a =>
    refine I.onPc fun p h0 hp hs => ?_
    have hw : p.state ≠ "within" := by rw [in1 hs]; decide
    show FlOk (if _ then _ else _ : Ans × Fl).2
    split
    · rename_i ha
      exact I.put (p' := { p with state := "making", at_ := a }) _ hp hw rfl rfl rfl rfl rfl (by decide : ("making" : Str) ∈ stList) making_ne ⟨ha.1, by show a ≤ _; omega⟩ fun _ => ha.2
    · exact I
  | swap k o n =>
    refine I.onPc fun p h0 hp hs => ?_
    show FlOk (fs.mSwap _ p o n).2
    unfold Fl.mSwap
    split
    · rename_i ho
      cases e : fs.pcAt n with
      | none => exact I
      | some r =>
        dsimp only
        split
        · rename_i hr
          cases e2 : fs.pcs[o.toNat]? with
          | none => exact I
          | some q =>
            dsimp only
            split
            · rename_i hpt
              exact I.swap hp e2 (pcAt_some e).2 (in1 hs) hr ho.2 hpt
            · exact I
        · exact I
    · exact I
  | scrap k =>
    refine I.onPc fun p h0 hp hs => ?_
    have hw : p.state ≠ "within" := by rcases in4 hs with h | h | h | h <;> rw [h] <;> decide
    exact I.put (p' := { p with state := "scrap" }) _ hp hw rfl rfl rfl rfl rfl (by decide : ("scrap" : Str) ∈ stList) (by show ("scrap" : Str) ≠ "within"; decide) (at_ok (p := p) hp) fun h => absurd h scrap_nm
  | strip k =>
    refine I.onPc fun p h0 hp hs => ?_
    exact I.strip hp (in1 hs)
  | sell k c =>
    refine I.onPc fun p h0 hp hs => ?_
    have hw : p.state ≠ "within" := by rw [in1 hs]; decide
    show FlOk (if _ then _ else _ : Ans × Fl).2
    split
    · exact I.put (p' := { p with state := "sold", client := some c }) _ hp hw rfl rfl rfl rfl rfl (by decide : ("sold" : Str) ∈ stList) (by show ("sold" : Str) ≠ "within"; decide) (at_ok (p := p) hp) fun h => absurd h sold_nm
    · exact I
  | back k =>
    refine I.onPc fun p h0 hp hs => ?_
    have hw : p.state ≠ "within" := by rw [in1 hs]; decide
    exact I.put (p' := { p with state := "made", client := none }) _ hp hw rfl rfl rfl rfl rfl in_made made_ne (at_ok (p := p) hp) fun h => absurd h made_nm
end PM

namespace PM
open PySem L2 WK
def stkStep (z : Str) (acc : List Nat × Int) (x : Pc × Nat) : List Nat × Int := if x.1.part = z ∧ x.1.state = "stock" ∧ 0 < acc.2 then (acc.1 ++ [x.2], acc.2 - 1) else acc
end PM

namespace PM
open PySem L2 WK
theorem give_len (n : Nat) (h : Hold) (fs : Fl) : (fs.give n h).pcs.length = fs.pcs.length ∧ (fs.give n h).lots.length = fs.lots.length := by
  unfold Fl.give
  cases h with
  | lot j m =>
    dsimp only
    cases fs.lots[j]? <;> cases fs.pcs[n]? <;> simp
  | pc k =>
    dsimp only
    cases fs.pcs[k]? <;> cases fs.pcs[n]? <;> simp
theorem giveAll_len (n : Nat) : ∀ (hs : List Hold) (fs : Fl), (fs.giveAll n hs).pcs.length = fs.pcs.length ∧ (fs.giveAll n hs).lots.length = fs.lots.length
  | [], fs => ⟨rfl, rfl⟩
  | h :: hs, fs => by
    obtain ⟨a, b⟩ := giveAll_len n hs (fs.give n h)
    obtain ⟨c, d⟩ := give_len n h fs
    exact ⟨a.trans c, b.trans d⟩
theorem take_at {α : Type} {l : List α} {n : Nat} {x : α} (hl : l.length = n + 1) (h : l[n]? = some x) : l = l.take n ++ [x] := by
  conv => lhs; rw [← List.take_append_drop n l]
  have : l.drop n = [x] := by
    obtain ⟨hn, e⟩ := List.getElem?_eq_some_iff.mp h
    rw [List.drop_eq_getElem_cons hn, e, List.drop_eq_nil_of_le (by omega)]
  rw [this]
theorem set_last {α : Type} (l : List α) (x y : α) : (l ++ [x]).set l.length y = l ++ [y] := by
  rw [List.set_append_right _ _ (Nat.le_refl _), Nat.sub_self]
  rfl
/-- begun, by what it comes to -/
theorem begin_eq {fs : Fl} {z : Str} {ns : Bool} {hs : List Hold} {G : Fl} {p : Pc} (hG : ({ fs with pcs := fs.pcs ++ [newPc z] } : Fl).giveAll fs.pcs.length hs = G) (hp : G.pcs[fs.pcs.length]? = some p) :
    fs.begin_ z ns hs = { fs with lots := G.lots, pcs := G.pcs.take fs.pcs.length ++ [if ns = true then { p with state := "made" } else p], book := fs.book ++ [.begin_ z] } := by
  have hl : G.pcs.length = fs.pcs.length + 1 := by
    rw [← hG, (giveAll_len _ hs _).1]
    show (fs.pcs ++ [newPc z]).length = _
    rw [List.length_append]; rfl
  have fr := giveAll_frame fs.pcs.length hs { fs with pcs := fs.pcs ++ [newPc z] }
  unfold Fl.begin_
  dsimp only
  rw [hG] at fr ⊢
  obtain ⟨f1, f2, f3, f4, f5⟩ := fr
  have hm : (if ns = true then G.pcs.modify fs.pcs.length (fun p => { p with state := "made" }) else G.pcs) = G.pcs.take fs.pcs.length ++ [if ns = true then { p with state := "made" } else p] := by
    cases ns
    · exact take_at hl hp
    · rw [if_pos rfl, if_pos rfl, modify_at hp]
      have e := take_at hl hp
      have hlen : (G.pcs.take fs.pcs.length).length = fs.pcs.length := by rw [List.length_take]; omega
      rw [e]
      conv => lhs; arg 2; rw [← hlen]
      rw [set_last, ← e]
  rw [hm, f3]
  cases G
  dsimp only at f1 f2 f4 f5 ⊢
  rw [f1, f2, f4, f5]
end PM

namespace PM
open PySem L2 WK
def holdIs (o : Int) : Hold → Bool
  | .pc k => decide ((k : Int) = o)
  | .lot _ _ => false
def spotAt (hs : List Hold) (o : Int) (j : Nat) : Bool := match hs[j]? with
  | some h => holdIs o h
  | none => false
def spotsOf (hs : List Hold) (o : Int) : List Nat := (List.range hs.length).filter (spotAt hs o)
end PM

namespace PM
open PySem L2 WK
def Ans.tag : Ans → Str
  | .told _ => "told"
  | .part _ => "part"
  | .count => "count"
  | .lacks _ => "lacks"
  | .piece _ => "piece"
def Ans.val : Ans → PyData
  | .told d => d
  | .part z => .str z
  | .count => .int 0
  | .lacks z => .str z
  | .piece z => .str z
def Deed.word : Deed → Str
  | .buy _ _ _ => "buy"
  | .begin_ _ => "begin"
  | .work _ => "work"
  | .test _ _ => "test"
  | .rework _ _ => "rework"
  | .swap _ _ _ => "swap"
  | .scrap _ => "scrap"
  | .strip _ => "strip"
  | .sell _ _ => "sell"
  | .back _ => "back"
def Deed.num : Deed → Int
  | .buy _ _ _ => 0
  | .begin_ _ => 0
  | .work k => k
  | .test k _ => k
  | .rework k _ => k
  | .swap k _ _ => k
  | .scrap k => k
  | .strip k => k
  | .sell k _ => k
  | .back k => k
def Deed.args : Deed → List PyData
  | .test _ g => [.bool g]
  | .rework _ a => [.int a]
  | .swap _ o n => [.int o, .int n]
  | .sell _ c => [.int c]
  | _ => []
def Deed.isPc : Deed → Bool
  | .buy _ _ _ => false
  | .begin_ _ => false
  | _ => true
theorem mDone_pc {fs : Fl} {d : Deed} (h : d.isPc = true) : fs.mDone d = fs.onPc d.num d.states fun p => fs.pDone d.num.toNat p d := by
  cases d <;> first | rfl | cases h
/-- what is told is noted, what is not told changes nothing -/
def NoteOk (fs : Fl) (d : Deed) (r : Ans × Fl) : Prop := (r.1.isTold = true → r.2.book = fs.book ++ [d]) ∧ (r.1.isTold = false → r.2 = fs)
theorem NoteOk.no {fs : Fl} {d : Deed} {a : Ans} (h : a.isTold = false) : NoteOk fs d (a, fs) := ⟨(fun e => by rw [h] at e; cases e), fun _ => rfl⟩
theorem NoteOk.yes {fs fs' : Fl} {d : Deed} {v : PyData} (h : fs'.book = fs.book ++ [d]) : NoteOk fs d (.told v, fs') := ⟨fun _ => h, fun e => nomatch e⟩
end PM

namespace PM
open PySem L2 WK
end PM

namespace PM
open PySem L2 WK
/-- what was taken apart costs and holds nothing -/
def StrOk (fs : Fl) : Prop := ∀ (i : Nat) (p : Pc), fs.pcs[i]? = some p → p.state = "stripped" → p.cost = 0 ∧ p.holds = []
theorem StrOk.set {fs : Fl} (I : StrOk fs) {k : Nat} {p' : Pc} (h : p'.state ≠ "stripped") {ps : List Pc} (hps : ps = fs.pcs.set k p') : ∀ (i : Nat) (p : Pc), ps[i]? = some p → p.state = "stripped" → p.cost = 0 ∧ p.holds = [] := by
  subst hps
  intro i p hp hs
  by_cases hi : k = i
  · subst hi
    have hk := (List.getElem?_eq_some_iff.mp hp).1
    rw [List.length_set] at hk
    rw [List.getElem?_set_self hk] at hp
    cases hp
    exact absurd hs h
  · rw [List.getElem?_set_ne hi] at hp
    exact I i p hp hs
theorem StrOk.put {fs : Fl} (I : StrOk fs) {k : Nat} {p' : Pc} (d : Deed) (h : p'.state ≠ "stripped") : StrOk (fs.put k p' d) := I.set h rfl
theorem StrOk.strip {fs : Fl} (F : FlI fs) (I : StrOk fs) {k : Nat} {p : Pc} (hp : fs.pcs[k]? = some p) : StrOk (fs.strip k p) := by
  have hin : ∀ x ∈ pcsOf p.holds, ∃ q, fs.pcs[x]? = some q ∧ q.state = "within" := fun x hx => by
    obtain ⟨q, h1, h2⟩ := (F.pc k p hp).held x hx
    exact ⟨q, h1, F.within h1 h2⟩
  obtain ⟨b1, b2, _, _⟩ := stripPcs (pcsOf p.holds) fs.pcs ((lotsOf p.holds).foldl stripLot (fs.lots, 0)).2 (F.pc k p hp).nd hin
  intro i a ha hs
  replace ha : ((((pcsOf p.holds).foldl stripPc (fs.pcs, ((lotsOf p.holds).foldl stripLot (fs.lots, 0)).2)).1).set k { p with cost := 0, holds := [], state := "stripped", own := 0 })[i]? = some a := ha
  by_cases h3 : i = k
  · subst h3
    rw [List.getElem?_set_self (by rw [b1]; exact (List.getElem?_eq_some_iff.mp hp).1)] at ha
    cases ha
    exact ⟨rfl, rfl⟩
  · rw [List.getElem?_set_ne (Ne.symm h3), b2] at ha
    by_cases h4 : i ∈ pcsOf p.holds
    · rw [if_pos h4] at ha
      obtain ⟨q, hq, e⟩ := Option.map_eq_some_iff.mp ha
      subst e
      exact absurd (show ("made" : Str) = "stripped" from hs) (by decide)
    · rw [if_neg h4] at ha
      exact I i a ha hs
theorem StrOk.begin_ {fs : Fl} (F : FlOk fs) (I : StrOk fs) {z : Str} {r : PRow} (hr : PM.rowOf fs.rs z = some r) (hnb : (r.needs.isEmpty && r.steps.isEmpty) = false) (hl : fs.lacking r.needs = none) : StrOk (fs.begin_ z r.steps.isEmpty (fs.takes r.needs).flatten) := by
  obtain ⟨_, P0⟩ := F.begin_ hr hnb hl
  generalize (fs.takes r.needs).flatten = hs at P0
  obtain ⟨J, j1, j2, ⟨c, j3⟩, j4⟩ := FlI.giveAll (fs := { fs with pcs := fs.pcs ++ [newPc z], book := fs.book ++ [.begin_ z] }) (F.i.addPc hr hnb (.begin_ z)) (show (fs.pcs ++ [newPc z])[fs.pcs.length]? = some (newPc z) from List.getElem?_concat_length) making_ne making_ns (hs := hs) ⟨P0.pc, P0.nd, P0.lot, P0.ndl, P0.len⟩
  have eb : ({ fs with pcs := fs.pcs ++ [newPc z], book := fs.book ++ [.begin_ z] } : Fl).giveAll fs.pcs.length hs = { ({ fs with pcs := fs.pcs ++ [newPc z] } : Fl).giveAll fs.pcs.length hs with book := fs.book ++ [.begin_ z] } := giveAll_book fs.pcs.length hs { fs with pcs := fs.pcs ++ [newPc z] } _
  rw [eb] at j1 j3 j4
  dsimp only at j1 j3 j4
  generalize hG : ({ fs with pcs := fs.pcs ++ [newPc z] } : Fl).giveAll fs.pcs.length hs = G at j1 j3 j4
  rw [begin_eq hG j3]
  intro i a ha hst
  replace ha : (G.pcs.take fs.pcs.length ++ [if r.steps.isEmpty = true then { newPc z with holds := (newPc z).holds ++ hs, cost := c, state := "made" } else { newPc z with holds := (newPc z).holds ++ hs, cost := c }])[i]? = some a := ha
  have hl2 : G.pcs.length = fs.pcs.length + 1 := by rw [j1, List.length_append]; rfl
  have htl : (G.pcs.take fs.pcs.length).length = fs.pcs.length := by rw [List.length_take]; omega
  by_cases hi : i < fs.pcs.length
  · rw [List.getElem?_append_left (by omega), List.getElem?_take_of_lt hi] at ha
    obtain ⟨q, hq⟩ : ∃ q, fs.pcs[i]? = some q := ⟨_, List.getElem?_eq_getElem hi⟩
    obtain ⟨q', e1, _, _, e4⟩ := j4 i q (by omega) (by rw [List.getElem?_append_left hi]; exact hq)
    rw [ha] at e1
    cases e1
    rcases e4 with e4 | e4
    · exact I i a (by rw [e4]; exact hq) hst
    · rw [e4] at hst
      exact absurd hst (by decide)
  · have hil := (List.getElem?_eq_some_iff.mp ha).1
    rw [List.length_append, List.length_singleton, htl] at hil
    have : i = fs.pcs.length := by omega
    subst this
    rw [List.getElem?_append_right (by omega), htl, Nat.sub_self] at ha
    have ha2 := Option.some.inj ha
    subst ha2
    by_cases hs0 : r.steps.isEmpty = true
    · rw [if_pos hs0] at hst
      exact absurd (show ("made" : Str) = "stripped" from hst) (by decide)
    · rw [if_neg hs0] at hst
      exact absurd (show ("making" : Str) = "stripped" from hst) (by decide)
theorem StrOk.mDone {fs : Fl} (F : FlOk fs) (I : StrOk fs) (d : Deed) : StrOk (fs.mDone d).2 := by
  have on : ∀ {k : Int} {ss : List Str} {f : Pc → Ans × Fl}, (∀ p, fs.pcs[k.toNat]? = some p → p.state ∈ ss → StrOk (f p).2) → StrOk (fs.onPc k ss f).2 := fun {k ss f} h => by
    unfold Fl.onPc
    cases e : fs.pcAt k with
    | none => exact I
    | some p =>
      dsimp only
      split
      · exact h p (pcAt_some e).2 (by assumption)
      · exact I
  cases d with
  | buy z m pr =>
    show StrOk (fs.mBuy z m pr).2
    unfold Fl.mBuy
    split
    · split
      · exact I
      · exact I
    · exact I
  | begin_ z =>
    show StrOk (fs.mBegin z).2
    unfold Fl.mBegin
    cases e : PM.rowOf fs.rs z with
    | none => exact I
    | some r =>
      dsimp only
      split
      · exact I
      · rename_i h
        cases e2 : fs.lacking r.needs with
        | some y => exact I
        | none => exact StrOk.begin_ F I e (by simpa using h) e2
  | work k =>
    refine on fun p hp hs => ?_
    have hst := in1 hs
    refine I.set (p' := p.work _ _) ?_ rfl
    show (if _ then ("made" : Str) else p.state) ≠ _
    split
    · decide
    · rw [hst]; decide
  | test k g =>
    refine on fun p hp hs => I.put _ ?_
    cases g
    · exact (by decide : ("bad" : Str) ≠ "stripped")
    · exact (by decide : ("stock" : Str) ≠ "stripped")
  | rework k a =>
    refine on fun p hp hs => ?_
    show StrOk (if _ then _ else _ : Ans × Fl).2
    split
    · exact I.put _ (show ("making" : Str) ≠ "stripped" by decide)
    · exact I
  | swap k o n =>
    refine on fun p hp hs => ?_
    show StrOk (fs.mSwap _ p o n).2
    unfold Fl.mSwap
    split
    · cases e : fs.pcAt n with
      | none => exact I
      | some r =>
        dsimp only
        split
        · cases e2 : fs.pcs[o.toNat]? with
          | none => exact I
          | some q =>
            dsimp only
            split
            · have I1 : StrOk { fs with pcs := fs.pcs.set k.toNat { p with holds := replPc o.toNat n.toNat p.holds, cost := p.cost + (r.cost - q.cost), state := "made" } } := I.set (show ("made" : Str) ≠ "stripped" by decide) rfl
              have I2 : StrOk { fs with pcs := (fs.pcs.set k.toNat { p with holds := replPc o.toNat n.toNat p.holds, cost := p.cost + (r.cost - q.cost), state := "made" }).set o.toNat { q with state := "bad", above := none } } := I1.set (show ("bad" : Str) ≠ "stripped" by decide) rfl
              exact I2.set (show ("within" : Str) ≠ "stripped" by decide) rfl
            · exact I
        · exact I
    · exact I
  | scrap k => exact on fun p hp hs => I.put _ (show ("scrap" : Str) ≠ "stripped" by decide)
  | strip k => exact on fun p hp hs => StrOk.strip F.i I hp
  | sell k c =>
    refine on fun p hp hs => ?_
    show StrOk (if _ then _ else _ : Ans × Fl).2
    split
    · exact I.put _ (show ("sold" : Str) ≠ "stripped" by decide)
    · exact I
  | back k => exact on fun p hp hs => I.put _ (show ("made" : Str) ≠ "stripped" by decide)
/-! where all that was paid lies -/
def placeOf (z : Str) : Option Str :=
  if z = "making" ∨ z = "made" ∨ z = "bad" then some "work" else if z = "stock" then some "stock" else if z = "sold" then some "sold" else if z = "scrap" then some "scrap" else none
def plStep (acc : List (Str × Int)) (p : Pc) : List (Str × Int) := match placeOf p.state with
  | some o => addA acc o p.cost
  | none => acc
def plStart (fs : Fl) : List (Str × Int) := [("lots", (fs.lots.map lotWorth).sum), ("work", 0), ("stock", 0), ("sold", 0), ("scrap", 0), ("lost", fs.lost)]
def placesOf (fs : Fl) : List (Str × Int) := fs.pcs.foldl plStep (plStart fs)
abbrev plKeys : List Str := ["lots", "work", "stock", "sold", "scrap", "lost"]
end PM

namespace WK
open PySem PySem.Spec PyProof.Rows L2 PM
/-- where the costs of pieces lie: the written dict of the program -/
structure PlcK (K : PySem.W.Frag) (w : World) (d : Addr) : Prop where
  kd : ∃ es n, KDict K w d es n
  get : ∀ z ∈ stList, (∃ o tk, placeOf z = some o ∧ PySem.W.nsIn K d z = some (some (.str o tk))) ∨ (placeOf z = none ∧ PySem.W.nsIn K d z = some none)
section
variable {P : Program} {w : World} {K : PySem.W.Frag} {H : Hp} {Q : VK} {d : Addr} {z o : Str}
end
end WK

/-! a book as text -/
namespace PM
open PySem L2 WK
abbrev spc : Str := " "
abbrev nlS : Str := "\n"
def partLine (r : PRow) : Str := Txt.join spc ["part", r.name, numS r.lot, numS r.lead]
def needLine (x : Str × Int) : Str := Txt.join spc ["need", x.1, numS x.2]
def stepLine (x : Int × Int) : Str := Txt.join spc ["step", numS x.1, numS x.2]
def rowLines (r : PRow) : List Str := partLine r :: (r.needs.map needLine ++ r.steps.map stepLine)
def textOf (rs : List PRow) : Str := Txt.join nlS (rs.flatMap rowLines)
theorem numS_len : ∀ k : Fin 100, (numS (k.val : Int)).length ≤ 2 := by decide +kernel
theorem numS_le {i : Int} (h0 : 0 ≤ i) (h1 : i < 100) : (numS i).length ≤ 2 := by
  have := numS_len ⟨i.toNat, by omega⟩
  rwa [show ((i.toNat : Nat) : Int) = i by omega] at this
theorem log2_small {i : Int} (h0 : 0 ≤ i) (h1 : i < 100) : i.natAbs.log2 < 1920 := by
  have h2 : i.natAbs < 2 ^ 1920 := Nat.lt_of_lt_of_le (show i.natAbs < 2 ^ 7 by omega) (Nat.pow_le_pow_right (by decide) (by decide))
  by_cases hz : i.natAbs = 0
  · rw [hz]; decide
  · exact (Nat.log2_lt hz).mpr h2
theorem join3_len {a b c : Str} {n : Nat} (h : a.length + b.length + c.length ≤ n) : (Txt.join spc [a, b, c]).length ≤ n + 3 := by
  have h1 := StrLaws.join_length_le spc [a, b, c]
  rw [← StrLaws.glued_eq_join] at h1; change (Txt.join spc _).length ≤ _ at h1
  simp only [List.map_cons, List.map_nil, List.sum_cons, List.sum_nil, List.length_cons, List.length_nil] at h1
  have : spc.length = 1 := rfl
  rw [this] at h1
  omega
theorem join4_len {a b c d : Str} {n : Nat} (h : a.length + b.length + c.length + d.length ≤ n) : (Txt.join spc [a, b, c, d]).length ≤ n + 4 := by
  have h1 := StrLaws.join_length_le spc [a, b, c, d]
  rw [← StrLaws.glued_eq_join] at h1; change (Txt.join spc _).length ≤ _ at h1
  simp only [List.map_cons, List.map_nil, List.sum_cons, List.sum_nil, List.length_cons, List.length_nil] at h1
  have : spc.length = 1 := rfl
  rw [this] at h1
  omega
theorem name_len {z : Str} (h : isNameM z = true) : z.length ≤ 8 := by
  unfold isNameM at h
  simp only [Bool.and_eq_true, decide_eq_true_eq] at h
  omega
end PM
namespace PM
open PySem L2 WK
section
variable {names : List Str} {r : PRow}
theorem part_sum (R : GoodRow names r) : ((["part", r.name, numS r.lot, numS r.lead] : List Str).map (·.length)).sum + ([("part" : Str), r.name, numS r.lot, numS r.lead] : List Str).length * spc.length ≤ 16777216 := by
  have h1 := name_len R.nm
  have h2 := numS_le (i := r.lot) (by have := R.lot; omega) (by have := R.lot; omega)
  have h3 := numS_le (i := r.lead) (by have := R.lead; omega) (by have := R.lead; omega)
  simp only [List.map_cons, List.map_nil, List.sum_cons, List.sum_nil, List.length_cons, List.length_nil]
  have e1 : ("part" : Str).length = 4 := rfl
  have e2 : spc.length = 1 := rfl
  omega
theorem lines_len (R : GoodRow names r) (hn : r.needs.length ≤ 12) : (rowLines r).length ≤ 18 := by
  have := R.few
  unfold rowLines
  rw [List.length_cons, List.length_append, List.length_map, List.length_map]
  omega
end
theorem flat_len {rs : List PRow} (h : ∀ r ∈ rs, (rowLines r).length ≤ 18) : (rs.flatMap rowLines).length ≤ 18 * rs.length := by
  induction rs with
  | nil => exact Nat.le_refl _
  | cons r rs ih =>
    have h1 := h r (.head _)
    have h2 := ih fun x hx => h x (.tail _ hx)
    rw [List.flatMap_cons, List.length_append, List.length_cons]
    omega
theorem GoodBook.lines18 {rs : List PRow} (G : GoodBook rs) : ∀ r ∈ rs, (rowLines r).length ≤ 18 := by
  intro r hr
  obtain ⟨j, hj⟩ := List.getElem?_of_mem hr
  have R := G.row j r hj
  refine lines_len R ?_
  have := nodup_sub_length R.nd (l' := (rs.take j).map (·.name)) (by
    intro x hx
    obtain ⟨y, hy, rfl⟩ := List.mem_map.mp hx
    exact R.known y hy)
  rw [List.length_map, List.length_map, List.length_take] at this
  have := G.len
  omega
theorem need_sum {rs : List PRow} {i : Nat} {r : PRow} {x : Str × Int} (hk : x.1 ∈ (rs.take i).map (·.name)) (m1 : 1 ≤ x.2) (m2 : x.2 ≤ 9) (G : GoodBook rs) (_ : rs[i]? = some r) : ((["need", x.1, numS x.2] : List Str).map (·.length)).sum + ([("need" : Str), x.1, numS x.2] : List Str).length * spc.length ≤ 16777216 := by
  obtain ⟨q, hq, e⟩ := List.mem_map.mp hk
  obtain ⟨j, hj⟩ := List.getElem?_of_mem (List.mem_of_mem_take hq)
  have h1 := name_len (G.row j q hj).nm
  rw [e] at h1
  have h2 := numS_le (i := x.2) (by omega) (by omega)
  simp only [List.map_cons, List.map_nil, List.sum_cons, List.sum_nil, List.length_cons, List.length_nil]
  have e1 : ("need" : Str).length = 4 := rfl
  have e2 : spc.length = 1 := rfl
  omega
theorem step_sum {x : Int × Int} (h : (0 ≤ x.1 ∧ x.1 < 6) ∧ 1 ≤ x.2 ∧ x.2 ≤ 99) : ((["step", numS x.1, numS x.2] : List Str).map (·.length)).sum + ([("step" : Str), numS x.1, numS x.2] : List Str).length * spc.length ≤ 16777216 := by
  have h1 := numS_le (i := x.1) (by omega) (by omega)
  have h2 := numS_le (i := x.2) (by omega) (by omega)
  simp only [List.map_cons, List.map_nil, List.sum_cons, List.sum_nil, List.length_cons, List.length_nil]
  have e1 : ("step" : Str).length = 4 := rfl
  have e2 : spc.length = 1 := rfl
  omega
theorem line3 {a b c : Str} (ha : a.length ≤ 4) (hb : b.length ≤ 8) (hc : c.length ≤ 2) : (Txt.join spc [a, b, c]).length ≤ 20 := Nat.le_trans (join3_len (n := 14) (by omega)) (by decide)
theorem GoodBook.line_len {rs : List PRow} (G : GoodBook rs) : ∀ y ∈ rs.flatMap rowLines, y.length ≤ 20 := by
  intro y hy
  obtain ⟨r, hr, hy⟩ := List.mem_flatMap.mp hy
  obtain ⟨j, hj⟩ := List.getElem?_of_mem hr
  have R := G.row j r hj
  rcases List.mem_cons.mp hy with rfl | hy
  · have h1 := name_len R.nm
    have h2 := numS_le (i := r.lot) (by have := R.lot; omega) (by have := R.lot; omega)
    have h3 := numS_le (i := r.lead) (by have := R.lead; omega) (by have := R.lead; omega)
    have e1 : ("part" : Str).length = 4 := rfl
    exact Nat.le_trans (join4_len (n := 16) (by omega)) (by decide)
  · rcases List.mem_append.mp hy with hy | hy
    · obtain ⟨x, hx, rfl⟩ := List.mem_map.mp hy
      obtain ⟨q, hq, e⟩ := List.mem_map.mp (R.known x hx)
      obtain ⟨i, hi⟩ := List.getElem?_of_mem (List.mem_of_mem_take hq)
      have h1 := name_len (G.row i q hi).nm
      rw [e] at h1
      have := R.many x hx
      exact line3 (by decide) h1 (numS_le (by omega) (by omega))
    · obtain ⟨x, hx, rfl⟩ := List.mem_map.mp hy
      obtain ⟨⟨m1, m2⟩, m3, m4⟩ := R.steps x hx
      exact line3 (by decide) (Nat.le_trans (numS_le (by omega) (by omega)) (by decide)) (numS_le (by omega) (by omega))
theorem sum_len {ys : List Str} {n : Nat} (h : ∀ y ∈ ys, y.length ≤ n) : (ys.map (·.length)).sum ≤ n * ys.length := by
  induction ys with
  | nil => exact Nat.le_refl _
  | cons y ys ih =>
    have h1 := h y (.head _)
    have h2 := ih fun x hx => h x (.tail _ hx)
    rw [List.map_cons, List.sum_cons, List.length_cons, Nat.mul_succ]
    omega
theorem text_sum {rs : List PRow} (G : GoodBook rs) : ((rs.flatMap rowLines).map (·.length)).sum + (rs.flatMap rowLines).length * nlS.length ≤ 16777216 := by
  have h1 := sum_len G.line_len
  have h2 := flat_len G.lines18
  have := G.len
  have e : nlS.length = 1 := rfl
  rw [e]
  omega
end PM
namespace PM
open PySem L2 WK
abbrev figs : Str := "0123456789"
theorem num_fact : ∀ k : Fin 100, (1 ≤ (numS (k.val : Int)).length ∧ (numS (k.val : Int)).length ≤ 2) ∧ Txt.stripChars (numS (k.val : Int)) figs = "" ∧ PySem.intText? (numS (k.val : Int)) = some (k.val : Int) ∧ ((numS (k.val : Int)).cps.toList.getD 0 0 = 48 → numS (k.val : Int) = "0") := by decide +kernel
end PM

/-! a book's text, read again -/
namespace PM
open PySem L2 WK
inductive Tg where
  | part (z : Str) (i j : Int)
  | need (z : Str) (i : Int)
  | step (i j : Int)
def Tg.words : Tg → List Str
  | .part z i j => ["part", z, numS i, numS j]
  | .need z i => ["need", z, numS i]
  | .step i j => ["step", numS i, numS j]
def Tg.line (t : Tg) : Str := Txt.join spc t.words
def Tg.ok : Tg → Prop
  | .part z i j => isNameM z = true ∧ (0 ≤ i ∧ i < 100) ∧ (0 ≤ j ∧ j < 100)
  | .need z i => isNameM z = true ∧ (0 ≤ i ∧ i < 100)
  | .step i j => (0 ≤ i ∧ i < 100) ∧ (0 ≤ j ∧ j < 100)
def rowTags (r : PRow) : List Tg := .part r.name r.lot r.lead :: (r.needs.map (fun x => .need x.1 x.2) ++ r.steps.map fun x => .step x.1 x.2)
theorem tags_lines (r : PRow) : (rowTags r).map Tg.line = rowLines r := by
  unfold rowTags rowLines
  rw [List.map_cons, List.map_append, List.map_map, List.map_map]
  rfl
def bookTags (rs : List PRow) : List Tg := rs.flatMap rowTags
theorem book_lines (rs : List PRow) : (bookTags rs).map Tg.line = rs.flatMap rowLines := by
  unfold bookTags
  induction rs with
  | nil => rfl
  | cons r rs ih => rw [List.flatMap_cons, List.flatMap_cons, List.map_append, ih, tags_lines]
abbrev RdS := Option (List PRow × PRow)
def rd1 : RdS → Tg → RdS
  | none, .part z i j => some ([], ⟨z, [], [], i, j⟩)
  | some (qs, r), .part z i j => some (qs ++ [r], ⟨z, [], [], i, j⟩)
  | some (qs, r), .need z i => some (qs, { r with needs := r.needs ++ [(z, i)] })
  | some (qs, r), .step i j => some (qs, { r with steps := r.steps ++ [(i, j)] })
  | none, _ => none
def rdRows : RdS → List PRow
  | none => []
  | some (qs, r) => qs ++ [r]
def SOk : RdS → Tg → Prop
  | _, .part _ _ _ => True
  | s, .need _ _ => ∃ qs r, s = some (qs, r) ∧ r.steps = []
  | s, .step _ _ => ∃ qs r, s = some (qs, r)
def rdV : RdS → List Tg → Prop
  | _, [] => True
  | s, t :: ts => SOk s t ∧ rdV (rd1 s t) ts
def rdSize : RdS → Nat
  | none => 0
  | some (qs, r) => qs.length + r.needs.length + r.steps.length + 1
theorem rd1_size (s : RdS) (t : Tg) : rdSize (rd1 s t) ≤ rdSize s + 1 := by
  cases s with
  | none =>
    cases t with
    | part z i j => exact Nat.le_refl _
    | need z i => exact Nat.zero_le _
    | step i j => exact Nat.zero_le _
  | some p =>
    obtain ⟨qs, r⟩ := p
    cases t with
    | part z i j => show (qs ++ [r]).length + 0 + 0 + 1 ≤ qs.length + r.needs.length + r.steps.length + 1 + 1; rw [List.length_append]; simp; omega
    | need z i => show qs.length + (r.needs ++ [(z, i)]).length + r.steps.length + 1 ≤ qs.length + r.needs.length + r.steps.length + 1 + 1; rw [List.length_append]; simp; omega
    | step i j => show qs.length + r.needs.length + (r.steps ++ [(i, j)]).length + 1 ≤ qs.length + r.needs.length + r.steps.length + 1 + 1; rw [List.length_append]; simp; omega
/-! words -/
theorem num_free : ∀ k : Fin 100, 32 ∉ TL.tl (numS (k.val : Int)) ∧ 10 ∉ TL.tl (numS (k.val : Int)) := by decide +kernel
theorem num_free' {i : Int} (h0 : 0 ≤ i) (h1 : i < 100) : 32 ∉ TL.tl (numS i) ∧ 10 ∉ TL.tl (numS i) := by
  have := num_free ⟨i.toNat, by omega⟩
  rwa [show ((i.toNat : Nat) : Int) = i by omega] at this
theorem name_free {z : Str} (h : isNameM z = true) {c : Nat} (hc : c ∉ letters.cps.toList) : c ∉ TL.tl z := by
  unfold isNameM at h
  simp only [Bool.and_eq_true, decide_eq_true_eq, List.all_map, List.all_eq_true] at h
  intro hm
  have := h.2.2 c hm
  simp only [Function.comp, id, decide_eq_true_eq] at this
  exact hc this
theorem words_free {t : Tg} (h : t.ok) : ∀ p ∈ t.words, 32 ∉ TL.tl p ∧ 10 ∉ TL.tl p := by
  have n32 : 32 ∉ letters.cps.toList := by decide +kernel
  have n10 : 10 ∉ letters.cps.toList := by decide +kernel
  cases t with
  | part z i j =>
    obtain ⟨h1, h2, h3⟩ := h
    intro p hp
    simp only [Tg.words, List.mem_cons, List.not_mem_nil, or_false] at hp
    rcases hp with rfl | rfl | rfl | rfl
    · decide +kernel
    · exact ⟨name_free h1 n32, name_free h1 n10⟩
    · exact num_free' h2.1 h2.2
    · exact num_free' h3.1 h3.2
  | need z i =>
    obtain ⟨h1, h2⟩ := h
    intro p hp
    simp only [Tg.words, List.mem_cons, List.not_mem_nil, or_false] at hp
    rcases hp with rfl | rfl | rfl
    · decide +kernel
    · exact ⟨name_free h1 n32, name_free h1 n10⟩
    · exact num_free' h2.1 h2.2
  | step i j =>
    obtain ⟨h2, h3⟩ := h
    intro p hp
    simp only [Tg.words, List.mem_cons, List.not_mem_nil, or_false] at hp
    rcases hp with rfl | rfl | rfl
    · decide +kernel
    · exact num_free' h2.1 h2.2
    · exact num_free' h3.1 h3.2
theorem mem_joinL {c : Nat} {S : List Nat} : ∀ {ps : List (List Nat)}, c ∈ TL.joinL S ps → c ∈ S ∨ ∃ p ∈ ps, c ∈ p
  | [], h => by simp [TL.joinL] at h
  | [p], h => .inr ⟨p, .head _, h⟩
  | p :: q :: r, h => by
    rcases List.mem_append.mp h with h | h
    · exact .inr ⟨p, .head _, h⟩
    · rcases List.mem_append.mp h with h | h
      · exact .inl h
      · rcases mem_joinL h with h | ⟨x, hx, h⟩
        · exact .inl h
        · exact .inr ⟨x, .tail _ hx, h⟩
theorem tl_txtjoin (y : Str) (ps : List Str) : TL.tl (Txt.join y ps) = TL.joinL (TL.tl y) (ps.map TL.tl) := by
  rw [TL.join_eq, TL.tl_join]
theorem line_free {t : Tg} (h : t.ok) : 10 ∉ TL.tl t.line := by
  intro hm
  unfold Tg.line at hm
  rw [tl_txtjoin] at hm
  rcases mem_joinL hm with h1 | ⟨p, hp, h1⟩
  · exact absurd h1 (by decide +kernel)
  · obtain ⟨q, hq, rfl⟩ := List.mem_map.mp hp
    exact (words_free h q hq).2 h1
theorem split_line {t : Tg} (h : t.ok) : Txt.split t.line spc = t.words := by
  unfold Tg.line
  refine TL.split_join (s := 32) (S := []) (by decide +kernel) (by decide +kernel) ?_ fun p hp => (words_free h p hp).1
  cases t <;> exact List.cons_ne_nil _ _
theorem split_text {ts : List Tg} (hne : ts ≠ []) (h : ∀ t ∈ ts, t.ok) : Txt.split (Txt.join nlS (ts.map Tg.line)) nlS = ts.map Tg.line := by
  refine TL.split_join (s := 10) (S := []) (by decide +kernel) (by decide +kernel) (fun e => hne (List.map_eq_nil_iff.mp e)) fun p hp => ?_
  obtain ⟨t, ht, rfl⟩ := List.mem_map.mp hp
  exact line_free (h t ht)
theorem joinL_ne {S : List Nat} {p : List Nat} {ps : List (List Nat)} (h : p ≠ []) : TL.joinL S (p :: ps) ≠ [] := by
  cases ps with
  | nil => exact h
  | cons q r => intro e; exact h (List.append_eq_nil_iff.mp e).1
theorem line_ne (t : Tg) : t.line ≠ "" := by
  intro e
  have h := congrArg TL.tl e
  unfold Tg.line at h
  rw [tl_txtjoin] at h
  cases t <;> exact joinL_ne (by decide +kernel) h
theorem text_ne {ts : List Tg} (hne : ts ≠ []) : Txt.join nlS (ts.map Tg.line) ≠ "" := by
  intro e
  have h := congrArg TL.tl e
  rw [tl_txtjoin] at h
  cases ts with
  | nil => exact hne rfl
  | cons t ts => exact joinL_ne (fun z => line_ne t (TL.ext_tl z)) h
theorem GoodBook.tags {rs : List PRow} (G : GoodBook rs) : ∀ t ∈ bookTags rs, t.ok := by
  intro t ht
  obtain ⟨r, hr, ht⟩ := List.mem_flatMap.mp ht
  obtain ⟨j, hj⟩ := List.getElem?_of_mem hr
  have R := G.row j r hj
  rcases List.mem_cons.mp ht with rfl | ht
  · have := R.lot
    have := R.lead
    exact ⟨R.nm, ⟨by omega, by omega⟩, by omega, by omega⟩
  · rcases List.mem_append.mp ht with ht | ht
    · obtain ⟨x, hx, rfl⟩ := List.mem_map.mp ht
      obtain ⟨q, hq, e⟩ := List.mem_map.mp (R.known x hx)
      obtain ⟨i, hi⟩ := List.getElem?_of_mem (List.mem_of_mem_take hq)
      have h1 := (G.row i q hi).nm
      rw [e] at h1
      have := R.many x hx
      exact ⟨h1, by omega, by omega⟩
    · obtain ⟨x, hx, rfl⟩ := List.mem_map.mp ht
      obtain ⟨⟨m1, m2⟩, m3, m4⟩ := R.steps x hx
      exact ⟨⟨by omega, by omega⟩, by omega, by omega⟩
theorem bookTags_ne {rs : List PRow} (h : rs ≠ []) : bookTags rs ≠ [] := by
  cases rs with
  | nil => exact absurd rfl h
  | cons r rs => exact List.cons_ne_nil _ _
theorem text_tags (rs : List PRow) : textOf rs = Txt.join nlS ((bookTags rs).map Tg.line) := by
  unfold textOf
  rw [book_lines]
theorem GoodBook.text_len {rs : List PRow} (G : GoodBook rs) : (textOf rs).length ≤ 10000 := by
  have h1 := StrLaws.join_length_le nlS (rs.flatMap rowLines)
  rw [← StrLaws.glued_eq_join] at h1; change (Txt.join nlS _).length ≤ _ at h1
  have h2 := sum_len G.line_len
  have h3 := flat_len G.lines18
  have := G.len
  have e : nlS.length = 1 := rfl
  rw [e] at h1
  unfold textOf
  omega
theorem GoodBook.tag_len {rs : List PRow} (G : GoodBook rs) : ∀ t ∈ bookTags rs, t.line.length ≤ 20 := by
  intro t ht
  refine G.line_len _ ?_
  rw [← book_lines]
  exact List.mem_map.mpr ⟨t, ht, rfl⟩
end PM

/-! a book's text by its rows -/
namespace PM
open PySem L2 WK
/-- rows that need nothing -/
structure Bare (r : PRow) : Prop where
  nm : isNameM r.name = true
  lot : 1 ≤ r.lot ∧ r.lot ≤ 99
  lead : 0 ≤ r.lead ∧ r.lead ≤ 30
  few : r.steps.length ≤ 5
  steps : ∀ x ∈ r.steps, (0 ≤ x.1 ∧ x.1 < 6) ∧ 1 ≤ x.2 ∧ x.2 ≤ 99
  none : r.needs = []
theorem GoodRow.bare {names : List Str} {r : PRow} (R : GoodRow names r) (h : r.needs = []) : Bare r := ⟨R.nm, R.lot, R.lead, R.few, R.steps, h⟩
theorem bare_led : ∀ (as bs : List PRow), (∀ r ∈ as, r.needs = []) → (∀ p ∈ ledOf bs, p.2 = []) → ∀ p ∈ ledOf (bs ++ as), p.2 = []
  | [], bs, _, h => by rw [List.append_nil]; exact h
  | a :: as, bs, ha, h => by
    have e : bs ++ a :: as = (bs ++ [a]) ++ as := by simp
    rw [e]
    refine bare_led as (bs ++ [a]) (fun r hr => ha r (.tail _ hr)) fun p hp => ?_
    rw [ledOf_snoc] at hp
    rcases List.mem_append.mp hp with hp | hp
    · exact h p hp
    · rw [List.mem_singleton] at hp
      subst hp
      show ledTo _ _ a.needs = []
      rw [ha a (.head _)]
      unfold ledTo
      refine List.filter_eq_nil_iff.mpr fun q hq => ?_
      obtain ⟨s, _, rfl⟩ := List.mem_map.mp (show q ∈ _ from hq)
      simp
theorem bare_book {as : List PRow} (h : ∀ r ∈ as, Bare r) (nd : (as.map (·.name)).Nodup) (hl : as.length ≤ 12) : GoodBook as where
  len := hl
  row := fun i r hr => by
    have b := h r (List.mem_of_getElem? hr)
    refine ⟨b.nm, ?_, b.lot, b.lead, ?_, ?_, ?_, b.few, b.steps⟩
    · intro hm
      rw [← List.take_append_drop i as, List.map_append, List.nodup_append] at nd
      obtain ⟨q, hq, e⟩ := List.mem_map.mp hm
      refine nd.2.2 q.name (List.mem_map.mpr ⟨q, hq, rfl⟩) r.name (List.mem_map.mpr ⟨r, ?_, rfl⟩) e
      exact List.mem_of_getElem? (i := 0) (by rw [List.getElem?_drop]; simpa using hr)
    · rw [b.none]; exact List.nodup_nil
    · intro x hx; rw [b.none] at hx; cases hx
    · intro x hx; rw [b.none] at hx; cases hx
  led := fun p hp => by
    have := bare_led as [] (fun r hr => (h r hr).none) (fun _ z => nomatch z) p hp
    rw [this]
    decide
theorem GoodBook.alone {rs : List PRow} (G : GoodBook rs) : (∀ r ∈ rs.filter (fun r => r.needs.isEmpty), Bare r) ∧ ((rs.filter fun r => r.needs.isEmpty).map (·.name)).Nodup ∧ (rs.filter fun r => r.needs.isEmpty).length ≤ 12 := by
  refine ⟨fun r hr => ?_, ?_, ?_⟩
  · obtain ⟨h1, h2⟩ := List.mem_filter.mp hr
    obtain ⟨i, hi⟩ := List.getElem?_of_mem h1
    exact (G.row i r hi).bare (List.isEmpty_iff.mp h2)
  · have := G.nodup rs.length
    rw [List.take_length] at this
    exact this.sublist ((List.filter_sublist ..).map _)
  · exact Nat.le_trans (List.length_filter_le ..) G.len
theorem Bare.book {r : PRow} (b : Bare r) : GoodBook [r] := bare_book (fun q hq => by rw [List.mem_singleton] at hq; exact hq ▸ b) (by simp) (by simp)
end PM

/-! shapes of rows and lines -/
namespace PM
open PySem L2 WK
end PM

/-! the law's own lines -/
namespace PM
open PySem L2 WK
end PM
namespace PM
open PySem L2 WK
abbrev rowA : PRow := ⟨"a", [], [], 99, 30⟩
theorem row_al {r : PRow} (h1 : r.needs.length ≤ 100000) (h2 : r.steps.length ≤ 100000) {n : Nat} : AlOk (n + 3) (encRow r) := by
  refine AlOk.tup (by simp) fun d hd => ?_
  simp only [List.mem_cons, List.not_mem_nil, or_false] at hd
  rcases hd with rfl | rfl | rfl | rfl | rfl
  · exact AlOk.str
  · refine AlOk.tup (by rw [List.length_map]; exact h1) fun d hd => ?_
    obtain ⟨x, hx, rfl⟩ := List.mem_map.mp hd
    refine AlOk.tup (by simp) fun d hd => ?_
    simp only [List.mem_cons, List.not_mem_nil, or_false] at hd
    rcases hd with rfl | rfl
    · exact AlOk.str
    · exact AlOk.int
  · refine AlOk.tup (by rw [List.length_map]; exact h2) fun d hd => ?_
    obtain ⟨x, hx, rfl⟩ := List.mem_map.mp hd
    refine AlOk.tup (by simp) fun d hd => ?_
    simp only [List.mem_cons, List.not_mem_nil, or_false] at hd
    rcases hd with rfl | rfl
    · exact AlOk.int
    · exact AlOk.int
  · exact AlOk.int
  · exact AlOk.int
theorem GoodBook.al {rs : List PRow} (G : GoodBook rs) {n : Nat} : AlOk (n + 4) (.list (rs.map encRow)) := by
  refine AlOk.lst (by rw [List.length_map]; have := G.len; omega) fun d hd => ?_
  obtain ⟨r, hr, rfl⟩ := List.mem_map.mp hd
  have hnl := G.lines18 r hr
  unfold rowLines at hnl
  rw [List.length_cons, List.length_append, List.length_map, List.length_map] at hnl
  exact row_al (by omega) (by omega)
end PM

/-! what the law itself counts -/
namespace PM
open PySem L2
def needsOf (rs : List PRow) (s : Str) : List (Str × Int) := match rs.filter fun r => decide (r.name = s) with | r :: _ => r.needs | [] => []
def lawStep (g : Str → List (Str × Int)) (f : List (Str × Int)) (p : Str × Int) : List (Str × Int) := addAll p.2 (addA f p.1 p.2) (g p.1)
def lawLed (rs : List PRow) : Nat → List (Str × Int) → List (Str × Int)
  | 0, _ => []
  | n + 1, needs => needs.foldl (lawStep fun s => lawLed rs n (needsOf rs s)) []
structure Fine (names : List Str) (f : List (Str × Int)) : Prop where
  nd : (f.map (·.1)).Nodup
  sub : ∀ y ∈ f, y.1 ∈ names
theorem putA_fine {names : List Str} {f : List (Str × Int)} {s : Str} {v : Int} (h : Fine names f) (hs : s ∈ names) : Fine names (putA f s v) := by
  by_cases k : s ∈ f.map (·.1)
  · refine ⟨by rw [putA_keys f s v k]; exact h.nd, fun y hy => ?_⟩
    have : y.1 ∈ (putA f s v).map (·.1) := List.mem_map.mpr ⟨y, hy, rfl⟩
    rw [putA_keys f s v k] at this
    obtain ⟨z, hz, e⟩ := List.mem_map.mp this
    rw [← e]
    exact h.sub z hz
  · rw [putA_new f s v k]
    refine ⟨?_, fun y hy => ?_⟩
    · rw [List.map_append]
      refine List.nodup_append.mpr ⟨h.nd, List.nodup_cons.mpr ⟨(by simp), List.nodup_nil⟩, ?_⟩
      intro a ha b hb hab
      rw [List.map_singleton, List.mem_singleton] at hb
      subst hb hab
      exact k ha
    · rcases List.mem_append.mp hy with hy | hy
      · exact h.sub y hy
      · rw [List.mem_singleton] at hy
        subst hy
        exact hs
theorem addA_fine {names : List Str} {f : List (Str × Int)} {s : Str} {v : Int} (h : Fine names f) (hs : s ∈ names) : Fine names (addA f s v) := putA_fine h hs
theorem addAll_fine {names : List Str} {m : Int} {more : List (Str × Int)} (hm : ∀ y ∈ more, y.1 ∈ names) {f : List (Str × Int)} (h : Fine names f) : Fine names (addAll m f more) := by
  unfold addAll
  induction more generalizing f with
  | nil => exact h
  | cons y more ih =>
    rw [List.foldl_cons]
    exact ih (fun z hz => hm z (.tail _ hz)) (addA_fine h (hm y (.head _)))
theorem Fine.nil (names : List Str) : Fine names [] := ⟨List.nodup_nil, fun _ h => nomatch h⟩
theorem Fine.len {names : List Str} {f : List (Str × Int)} (h : Fine names f) : f.length ≤ names.length := by
  have := nodup_sub_length h.nd (l' := names) (fun x hx => by obtain ⟨y, hy, rfl⟩ := List.mem_map.mp hx; exact h.sub y hy)
  rwa [List.length_map] at this
theorem lawStep_fine {names : List Str} {g : Str → List (Str × Int)} {f : List (Str × Int)} {p : Str × Int} (h : Fine names f) (hp : p.1 ∈ names) (hg : ∀ y ∈ g p.1, y.1 ∈ names) : Fine names (lawStep g f p) := addAll_fine hg (addA_fine h hp)
theorem lawFold_fine {names : List Str} {g : Str → List (Str × Int)} {needs : List (Str × Int)} (hp : ∀ p ∈ needs, p.1 ∈ names) (hg : ∀ p ∈ needs, ∀ y ∈ g p.1, y.1 ∈ names) {f : List (Str × Int)} (h : Fine names f) : Fine names (needs.foldl (lawStep g) f) := by
  induction needs generalizing f with
  | nil => exact h
  | cons p needs ih =>
    rw [List.foldl_cons]
    exact ih (fun q hq => hp q (.tail _ hq)) (fun q hq => hg q (.tail _ hq)) (lawStep_fine h (hp p (.head _)) (hg p (.head _)))
theorem filter_one {rs : List PRow} {r : PRow} (nd : (rs.map (·.name)).Nodup) (h : r ∈ rs) : rs.filter (fun x => decide (x.name = r.name)) = [r] := by
  induction rs with
  | nil => cases h
  | cons a rs ih =>
    rw [List.map_cons] at nd
    obtain ⟨n1, n2⟩ := List.nodup_cons.mp nd
    rcases List.mem_cons.mp h with rfl | h
    · rw [List.filter_cons, if_pos (decide_eq_true rfl)]
      congr 1
      refine List.filter_eq_nil_iff.mpr fun x hx => ?_
      intro z
      exact n1 (List.mem_map.mpr ⟨x, hx, of_decide_eq_true z⟩)
    · rw [List.filter_cons, if_neg, ih n2 h]
      intro z
      exact n1 (List.mem_map.mpr ⟨r, h, (of_decide_eq_true z).symm⟩)
section
variable {rs : List PRow}
theorem GoodBook.nd (G : GoodBook rs) : (rs.map (·.name)).Nodup := by
  have := G.nodup rs.length
  rwa [List.take_length] at this
theorem needsOf_row (G : GoodBook rs) {r : PRow} (h : r ∈ rs) : needsOf rs r.name = r.needs := by
  unfold needsOf
  rw [filter_one G.nd h]
theorem mem_take_names {i n : Nat} (hi : i ≤ n) {s : Str} (h : s ∈ (rs.take i).map (·.name)) : s ∈ (rs.take n).map (·.name) := by
  obtain ⟨r, hr, e⟩ := List.mem_map.mp h
  refine List.mem_map.mpr ⟨r, ?_, e⟩
  obtain ⟨j, hj⟩ := List.getElem?_of_mem hr
  have h1 : j < i := by
    have := (List.getElem?_eq_some_iff.mp hj).1
    rw [List.length_take] at this
    omega
  rw [List.getElem?_take_of_lt h1] at hj
  exact List.mem_of_getElem? (by rw [List.getElem?_take_of_lt (show j < n by omega)]; exact hj)
theorem names_take {n : Nat} {s : Str} (h : s ∈ (rs.take n).map (·.name)) : s ∈ rs.map (·.name) := by
  obtain ⟨r, hr, e⟩ := List.mem_map.mp h
  exact List.mem_map.mpr ⟨r, List.mem_of_mem_take hr, e⟩
/-- the row behind a name, and how deep it lies -/
theorem GoodBook.at (G : GoodBook rs) {n : Nat} {s : Str} (h : s ∈ (rs.take (n + 1)).map (·.name)) : ∃ r ∈ rs, r.name = s ∧ rs.filter (fun x => decide (x.name = s)) = [r] ∧ (∀ x ∈ r.needs, x.1 ∈ (rs.take n).map (·.name)) ∧ (∀ x ∈ r.needs, 1 ≤ x.2 ∧ x.2 ≤ 9) ∧ r.needs.length ≤ 12 := by
  obtain ⟨r, hr, rfl⟩ := List.mem_map.mp h
  obtain ⟨j, hj⟩ := List.getElem?_of_mem hr
  have h1 : j < n + 1 := by
    have := (List.getElem?_eq_some_iff.mp hj).1
    rw [List.length_take] at this
    omega
  rw [List.getElem?_take_of_lt h1] at hj
  have R := G.row j r hj
  have hm := List.mem_of_getElem? hj
  refine ⟨r, hm, rfl, filter_one G.nd hm, fun x hx => mem_take_names (by omega) (R.known x hx), R.many, ?_⟩
  have := nodup_sub_length R.nd (l' := (rs.take j).map (·.name)) (by
    intro x hx
    obtain ⟨y, hy, rfl⟩ := List.mem_map.mp hx
    exact R.known y hy)
  rw [List.length_map, List.length_map, List.length_take] at this
  have := G.len
  omega
theorem lawLed_fine (G : GoodBook rs) : ∀ (n : Nat) (needs : List (Str × Int)), (∀ x ∈ needs, x.1 ∈ (rs.take n).map (·.name)) → Fine (rs.map (·.name)) (lawLed rs n needs)
  | 0, _, _ => Fine.nil _
  | n + 1, needs, h => by
    refine lawFold_fine (fun p hp => names_take (h p hp)) (fun p hp => ?_) (Fine.nil _)
    obtain ⟨r, hr, e, hf, hn, _⟩ := G.at (h p hp)
    rw [← e, needsOf_row G hr]
    exact (lawLed_fine G n r.needs hn).sub
end
theorem get_kvI (f : List (Str × Int)) (s : Str) (d : Int) : (valV (kvI f) (.inr s)).getD (.int d) = .int ((getA f s).getD d) := by
  rw [valV_kvI]
  cases getA f s <;> rfl
open WK in
theorem src_keysI {d : Addr} {o : Obj} {m : List (Str × Int)} : Src (Itk d o (kvI m)) (Frz d o (kvI m)) m (fun _ x p => x = .str p.1) := by
  have h := src_keys (d := d) (o := o) (kvs := kvI m)
  have e : (kvI m).map (·.1) = m.map fun p => (Sum.inr p.1 : Key) := by unfold kvI; rw [List.map_map]; rfl
  rw [e] at h
  exact h.map
open WK in
theorem getA_nodup {α : Type} {m : List (Str × α)} {y : Str × α} (h : y ∈ m) (nd : (m.map (·.1)).Nodup) : getA m y.1 = some y.2 := by
  induction m with
  | nil => cases h
  | cons p m ih =>
    rw [List.map_cons] at nd
    obtain ⟨n1, n2⟩ := List.nodup_cons.mp nd
    unfold getA
    rw [List.find?_cons]
    rcases List.mem_cons.mp h with rfl | h
    · rw [decide_eq_true rfl]; rfl
    · rw [decide_eq_false (fun e : p.1 = y.1 => n1 (List.mem_map.mpr ⟨y, h, e.symm⟩))]
      exact ih h n2
end PM

/-! what the law counts is what the program counts -/
namespace PM
open PySem L2
def valA (f : List (Str × Int)) (s : Str) : Int := (getA f s).getD 0
theorem getA_putA (f : List (Str × Int)) (s t : Str) (v : Int) : getA (putA f s v) t = if t = s then some v else getA f t := by
  have h : (getA (putA f s v) t).map V.int = (if t = s then some v else getA f t).map V.int := by
    rw [← valV_kvI, ← putK_kvI, valV_put]
    by_cases e : t = s
    · subst e; rw [if_pos rfl, if_pos rfl]; rfl
    · rw [if_neg e, if_neg (fun z => e (Sum.inr.inj z)), valV_kvI]
  cases e1 : getA (putA f s v) t with
  | none =>
    rw [e1] at h
    cases e2 : (if t = s then some v else getA f t) with
    | none => rfl
    | some w => rw [e2] at h; cases h
  | some u =>
    rw [e1] at h
    cases e2 : (if t = s then some v else getA f t) with
    | none => rw [e2] at h; cases h
    | some w => rw [e2] at h; simp at h; rw [h]
theorem valA_addA (f : List (Str × Int)) (s t : Str) (i : Int) : valA (addA f s i) t = valA f t + if t = s then i else 0 := by
  unfold valA addA
  rw [getA_putA]
  by_cases e : t = s
  · subst e; rw [if_pos rfl, if_pos rfl]; rfl
  · rw [if_neg e, if_neg e]; omega
theorem getA_cons {α : Type} (y : Str × α) (l : List (Str × α)) (t : Str) : getA (y :: l) t = if y.1 = t then some y.2 else getA l t := by
  unfold getA
  rw [List.find?_cons]
  by_cases e : y.1 = t
  · rw [if_pos e, decide_eq_true e]; rfl
  · rw [if_neg e, decide_eq_false e]
theorem getA_none {α : Type} {l : List (Str × α)} {t : Str} (h : t ∉ l.map (·.1)) : getA l t = none := by
  cases e : getA l t with
  | none => rfl
  | some v => exact absurd (List.mem_map.mpr ⟨_, getA_mem e, rfl⟩) h
theorem valA_addAll {m : Int} {more : List (Str × Int)} (nd : (more.map (·.1)).Nodup) (f : List (Str × Int)) (t : Str) : valA (addAll m f more) t = valA f t + m * valA more t := by
  induction more generalizing f with
  | nil => show valA f t = valA f t + m * 0; omega
  | cons y more ih =>
    rw [List.map_cons] at nd
    obtain ⟨n1, n2⟩ := List.nodup_cons.mp nd
    show valA (addAll m (addA f y.1 (m * y.2)) more) t = _
    rw [ih n2, valA_addA]
    have hv : valA (y :: more) t = if y.1 = t then y.2 else valA more t := by
      unfold valA
      rw [getA_cons]
      by_cases e : y.1 = t
      · rw [if_pos e, if_pos e]; rfl
      · rw [if_neg e, if_neg e]
    rw [hv]
    by_cases e : t = y.1
    · subst e
      have h0 : valA more y.1 = 0 := by unfold valA; rw [getA_none n1]; rfl
      rw [if_pos rfl, if_pos rfl, h0]
      omega
    · rw [if_neg e, if_neg (fun z => e z.symm)]
      omega
/-- alike as sums -/
def Alk (f g : List (Str × Int)) : Prop := ∀ t, valA f t = valA g t
theorem fold_alk {g g' : Str → List (Str × Int)} {needs : List (Str × Int)} (h : ∀ p ∈ needs, ((g p.1).map (·.1)).Nodup ∧ ((g' p.1).map (·.1)).Nodup ∧ Alk (g p.1) (g' p.1)) {f f' : List (Str × Int)} (e : Alk f f') : Alk (needs.foldl (lawStep g) f) (needs.foldl (lawStep g') f') := by
  induction needs generalizing f f' with
  | nil => exact e
  | cons p needs ih =>
    obtain ⟨h1, h2, h3⟩ := h p (.head _)
    rw [List.foldl_cons, List.foldl_cons]
    refine ih (fun q hq => h q (.tail _ hq)) fun t => ?_
    unfold lawStep
    rw [valA_addAll h1, valA_addAll h2, valA_addA, valA_addA, e t, h3 t]
def Pos (f : List (Str × Int)) : Prop := ∀ y ∈ f, 0 < y.2
theorem putA_mem {f : List (Str × Int)} {s : Str} {v : Int} {y : Str × Int} (h : y ∈ putA f s v) : y = (s, v) ∨ y ∈ f := by
  unfold putA at h
  split at h
  · obtain ⟨z, hz, e⟩ := List.mem_map.mp h
    by_cases k : z.1 = s
    · rw [if_pos k] at e; exact .inl (by rw [← e, k])
    · rw [if_neg k] at e; exact .inr (e ▸ hz)
  · rcases List.mem_append.mp h with h | h
    · exact .inr h
    · exact .inl (List.mem_singleton.mp h)
theorem addA_pos {f : List (Str × Int)} {s : Str} {i : Int} (h : Pos f) (hi : 0 < i) : Pos (addA f s i) := by
  intro y hy
  rcases putA_mem hy with rfl | hy
  · show 0 < (getA f s).getD 0 + i
    cases e : getA f s with
    | none => show 0 < 0 + i; omega
    | some v => have : 0 < v := h _ (getA_mem e); show 0 < v + i; omega
  · exact h y hy
theorem addAll_pos {f more : List (Str × Int)} {m : Int} (h : Pos f) (hm : 0 < m) (hp : Pos more) : Pos (addAll m f more) := by
  unfold addAll
  induction more generalizing f with
  | nil => exact h
  | cons y more ih => exact ih (addA_pos h (Int.mul_pos hm (hp y (.head _)))) fun z hz => hp z (.tail _ hz)
theorem fold_pos {g : Str → List (Str × Int)} {needs : List (Str × Int)} (hn : Pos needs) (h : ∀ p ∈ needs, Pos (g p.1)) {f : List (Str × Int)} (hf : Pos f) : Pos (needs.foldl (lawStep g) f) := by
  induction needs generalizing f with
  | nil => exact hf
  | cons p needs ih => exact ih (fun z hz => hn z (.tail _ hz)) (fun q hq => h q (.tail _ hq)) (addAll_pos (addA_pos hf (hn p (.head _))) (hn p (.head _)) (h p (.head _)))
def Nng (f : List (Str × Int)) : Prop := ∀ y ∈ f, 0 ≤ y.2
theorem addA_nng {f : List (Str × Int)} {s : Str} {i : Int} (h : Nng f) (hi : 0 ≤ i) : Nng (addA f s i) := by
  intro y hy
  rcases putA_mem hy with rfl | hy
  · show 0 ≤ (getA f s).getD 0 + i
    cases e : getA f s with
    | none => show 0 ≤ 0 + i; omega
    | some v => have : 0 ≤ v := h _ (getA_mem e); show 0 ≤ v + i; omega
  · exact h y hy
theorem addAll_nng {f more : List (Str × Int)} {m : Int} (h : Nng f) (hm : 0 < m) (hp : Pos more) : Nng (addAll m f more) := by
  unfold addAll
  induction more generalizing f with
  | nil => exact h
  | cons y more ih => exact ih (addA_nng h (Int.le_of_lt (Int.mul_pos hm (hp y (.head _))))) fun z hz => hp z (.tail _ hz)
theorem fold_nng {g : Str → List (Str × Int)} {needs : List (Str × Int)} (hn : Pos needs) (h : ∀ p ∈ needs, Pos (g p.1)) {f : List (Str × Int)} (hf : Nng f) : Nng (needs.foldl (lawStep g) f) := by
  induction needs generalizing f with
  | nil => exact hf
  | cons p needs ih => exact ih (fun z hz => hn z (.tail _ hz)) (fun q hq => h q (.tail _ hq)) (addAll_nng (addA_nng hf (Int.le_of_lt (hn p (.head _)))) (hn p (.head _)) (h p (.head _)))
theorem filter_alk {f : List (Str × Int)} (nd : (f.map (·.1)).Nodup) (nn : Nng f) : Alk (f.filter fun p => decide (0 < p.2)) f := by
  intro t
  have nd2 : ((f.filter fun p => decide (0 < p.2)).map (·.1)).Nodup := nd.sublist (List.filter_sublist.map _)
  unfold valA
  cases e : getA f t with
  | none =>
    rw [getA_none]
    intro z
    obtain ⟨y, hy, rfl⟩ := List.mem_map.mp z
    have := (getA_isSome f y.1).mpr (List.mem_map.mpr ⟨y, (List.mem_filter.mp hy).1, rfl⟩)
    rw [e] at this
    cases this
  | some v =>
    have hm := getA_mem e
    by_cases hv : 0 < v
    · rw [getA_nodup (y := (t, v)) (List.mem_filter.mpr ⟨hm, decide_eq_true hv⟩) nd2]
    · have : v = 0 := by have : 0 ≤ v := nn _ hm; omega
      subst this
      cases e2 : getA (f.filter fun p => decide (0 < p.2)) t with
      | none => rfl
      | some u =>
        obtain ⟨h1, h2⟩ := List.mem_filter.mp (getA_mem e2)
        have := getA_nodup h1 nd
        rw [show (t, u).1 = t from rfl, e] at this
        exact (Option.some.inj this).symm
/-- alike, each key once, no zero: the same rows -/
theorem alk_mem {f g : List (Str × Int)} (nf : (f.map (·.1)).Nodup) (pf : Pos f) (e : Alk f g) {y : Str × Int} (h : y ∈ f) : getA g y.1 = some y.2 := by
  have h1 := e y.1
  unfold valA at h1
  rw [getA_nodup h nf] at h1
  have hp := pf y h
  cases e2 : getA g y.1 with
  | none => rw [e2] at h1; simp at h1; omega
  | some v => rw [e2] at h1; simp at h1; rw [h1]
theorem nodup_of_keys {f : List (Str × Int)} (h : (f.map (·.1)).Nodup) : f.Nodup := by
  induction f with
  | nil => exact List.nodup_nil
  | cons y f ih =>
    obtain ⟨n1, n2⟩ := List.nodup_cons.mp h
    exact List.nodup_cons.mpr ⟨fun z => n1 (List.mem_map.mpr ⟨y, z, rfl⟩), ih n2⟩
theorem perm_sum {l l' : List Int} (h : l.Perm l') : l.sum = l'.sum := by
  induction h with
  | nil => rfl
  | cons x _ ih => simp [ih]
  | swap x y l => simp; omega
  | trans _ _ a b => exact a.trans b
theorem alk_sum {f g : List (Str × Int)} (nf : (f.map (·.1)).Nodup) (ng : (g.map (·.1)).Nodup) (pf : Pos f) (pg : Pos g) (e : Alk f g) : (f.map (·.2)).sum = (g.map (·.2)).sum := by
  have p : f.Perm g := (List.perm_ext_iff_of_nodup (nodup_of_keys nf) (nodup_of_keys ng)).mpr fun y => ⟨fun h => getA_mem (alk_mem nf pf e h), fun h => getA_mem (alk_mem ng pg (fun t => (e t).symm) h)⟩
  exact perm_sum (p.map _)
/-! what stands behind each name -/
theorem getA_append {α : Type} (l l' : List (Str × α)) (s : Str) : getA (l ++ l') s = match getA l s with | some v => some v | none => getA l' s := by
  induction l with
  | nil => rfl
  | cons y l ih =>
    rw [List.cons_append, getA_cons, getA_cons, ih]
    by_cases e : y.1 = s
    · rw [if_pos e, if_pos e]
    · rw [if_neg e, if_neg e]
theorem led_more : ∀ (xs : List PRow) (ls : List (Str × List (Str × Int))), ∃ more, xs.foldl ledStep ls = ls ++ more
  | [], ls => ⟨[], by rw [List.append_nil]; rfl⟩
  | r :: xs, ls => by
    obtain ⟨more, h⟩ := led_more xs (ledStep ls r)
    refine ⟨(r.name, ledTo (ls.map (·.1) ++ [r.name]) ls r.needs) :: more, ?_⟩
    rw [List.foldl_cons, h]
    unfold ledStep
    rw [List.append_assoc]
    rfl
section
variable {rs : List PRow}
theorem ledOf_cut (j : Nat) {s : Str} (h : s ∈ (rs.take j).map (·.name)) : getA (ledOf rs) s = getA (ledOf (rs.take j)) s := by
  obtain ⟨more, e⟩ := led_more (rs.drop j) (ledOf (rs.take j))
  have e2 : ledOf rs = ledOf (rs.take j) ++ more := by
    rw [← e]
    unfold ledOf
    rw [← List.foldl_append, List.take_append_drop]
  obtain ⟨v, hv⟩ := getA_of_mem (l := ledOf (rs.take j)) (s := s) (by rw [ledOf_names]; exact h)
  rw [e2, getA_append, hv]
def ledN (rs : List PRow) (s : Str) : List (Str × Int) := (getA (ledOf rs) s).getD []
theorem fold_congr {g g' : Str → List (Str × Int)} {needs f : List (Str × Int)} (h : ∀ p ∈ needs, g p.1 = g' p.1) : needs.foldl (lawStep g) f = needs.foldl (lawStep g') f := by
  induction needs generalizing f with
  | nil => rfl
  | cons p needs ih =>
    have e : lawStep g f p = lawStep g' f p := by unfold lawStep; rw [h p (.head _)]
    rw [List.foldl_cons, List.foldl_cons, e]
    exact ih fun q hq => h q (.tail _ hq)
theorem ledRaw_eq (names : List Str) (ls : List (Str × List (Str × Int))) (needs : List (Str × Int)) : ledRaw names ls needs = needs.foldl (lawStep fun s => (getA ls s).getD []) (names.map fun s => (s, 0)) := rfl
/-- the row at j -/
theorem GoodBook.ledAt (G : GoodBook rs) {j : Nat} {r : PRow} (h : rs[j]? = some r) : getA (ledOf rs) r.name = some (ledTo ((rs.take (j + 1)).map (·.name)) (ledOf rs) r.needs) := by
  have R := G.row j r h
  have hm : r.name ∈ (rs.take (j + 1)).map (·.name) := by rw [take_succ_map h]; exact List.mem_append_right _ (.head _)
  rw [ledOf_cut (j + 1) hm, ledOf_take h, ledStep, getA_append, getA_none (by rw [ledOf_names]; exact R.new), getA_cons, if_pos rfl]
  have e : ledTo ((ledOf (rs.take j)).map (·.1) ++ [r.name]) (ledOf (rs.take j)) r.needs = ledTo ((rs.take (j + 1)).map (·.name)) (ledOf rs) r.needs := by
    unfold ledTo
    rw [ledRaw_eq, ledRaw_eq, ledOf_names, take_succ_map h]
    congr 1
    exact fold_congr fun p hp => by rw [ledOf_cut j (R.known p hp)]
  rw [e]
theorem led_pos : ∀ p ∈ ledOf rs, Pos p.2 := by
  suffices h : ∀ (xs : List PRow) (ls : List (Str × List (Str × Int))), (∀ p ∈ ls, Pos p.2) → ∀ p ∈ xs.foldl ledStep ls, Pos p.2 from h rs [] (fun _ h => nomatch h)
  intro xs
  induction xs with
  | nil => intro ls h; exact h
  | cons r xs ih =>
    intro ls h
    refine ih _ fun p hp => ?_
    rcases List.mem_append.mp hp with hp | hp
    · exact h p hp
    · rw [List.mem_singleton] at hp
      subst hp
      exact fun y hy => of_decide_eq_true (List.mem_filter.mp hy).2
/-- what a row's needs come to, counted from nothing -/
def total (rs : List PRow) (needs : List (Str × Int)) : List (Str × Int) := needs.foldl (lawStep (ledN rs)) []
theorem led_at (G : GoodBook rs) {s : Str} (h : s ∈ rs.map (·.name)) : getA (ledOf rs) s = some (ledN rs s) ∧ ((ledN rs s).map (·.1)).Nodup ∧ Pos (ledN rs s) ∧ ∀ y ∈ ledN rs s, y.1 ∈ rs.map (·.name) := by
  obtain ⟨m, hm⟩ := getA_of_mem (l := ledOf rs) (s := s) (by rw [ledOf_names]; exact h)
  have e : ledN rs s = m := by unfold ledN; rw [hm]; rfl
  rw [e]
  refine ⟨hm, G.nd.sublist (G.led_all _ (getA_mem hm)), led_pos _ (getA_mem hm), fun y hy => ?_⟩
  exact (G.led_all _ (getA_mem hm)).subset (List.mem_map.mpr ⟨y, hy, rfl⟩)
theorem GoodBook.pos (G : GoodBook rs) {j : Nat} {r : PRow} (h : rs[j]? = some r) : Pos r.needs := fun y hy => by have := ((G.row j r h).many y hy).1; omega
theorem GoodBook.known_all (G : GoodBook rs) {j : Nat} {r : PRow} (h : rs[j]? = some r) : ∀ x ∈ r.needs, x.1 ∈ rs.map (·.name) := fun x hx => names_take ((G.row j r h).known x hx)
theorem GoodBook.led_total (G : GoodBook rs) {j : Nat} {r : PRow} (h : rs[j]? = some r) : Alk (ledN rs r.name) (total rs r.needs) := by
  have e : ledN rs r.name = ledTo ((rs.take (j + 1)).map (·.name)) (ledOf rs) r.needs := by unfold ledN; rw [G.ledAt h]; rfl
  have known := G.known_all h
  rw [e]
  have keys := ledRaw_keys (names := (rs.take (j + 1)).map (·.name)) (ls := ledOf rs) (needs := r.needs) fun x hx => ⟨mem_take_names (Nat.le_succ j) ((G.row j r h).known x hx), fun m hm z hz => by
    rw [ledOf_cut j ((G.row j r h).known x hx)] at hm
    exact mem_take_names (Nat.le_succ j) (G.known j _ (getA_mem hm) z hz)⟩
  have nn : Nng (ledRaw ((rs.take (j + 1)).map (·.name)) (ledOf rs) r.needs) := by
    rw [ledRaw_eq]
    refine fold_nng (G.pos h) (fun p hp => (led_at G (known p hp)).2.2.1) fun y hy => ?_
    obtain ⟨s, _, rfl⟩ := List.mem_map.mp hy
    exact Int.le_refl _
  intro t
  unfold ledTo
  rw [filter_alk (by rw [keys]; exact G.nodup _) nn t, ledRaw_eq]
  refine fold_alk (fun p hp => ?_) (fun t => ?_) t
  · obtain ⟨h1, h2, _⟩ := led_at G (known p hp)
    rw [show (getA (ledOf rs) p.1).getD [] = ledN rs p.1 from rfl]
    exact ⟨h2, h2, fun _ => rfl⟩
  · unfold valA
    cases e : getA (((rs.take (j + 1)).map (·.name)).map fun s => ((s, 0) : Str × Int)) t with
    | none => rfl
    | some v =>
      obtain ⟨s, _, hs⟩ := List.mem_map.mp (getA_mem e)
      cases hs
      rfl
/-- the law's own count of some needs -/
theorem lawLed_total (G : GoodBook rs) : ∀ (n : Nat) (needs : List (Str × Int)), (∀ x ∈ needs, x.1 ∈ (rs.take n).map (·.name)) → Alk (lawLed rs n needs) (total rs needs)
  | 0, needs, h => by
    cases needs with
    | nil => exact fun _ => rfl
    | cons p needs => have := h p (.head _); cases this
  | n + 1, needs, h => by
    refine fold_alk (fun p hp => ?_) fun _ => rfl
    obtain ⟨r, hr, e, _, hn, _⟩ := G.at (h p hp)
    obtain ⟨j, hj⟩ := List.getElem?_of_mem hr
    rw [← e, needsOf_row G hr]
    refine ⟨(lawLed_fine G n r.needs hn).nd, ?_, fun t => ?_⟩
    · rw [e]; exact (led_at G (names_take (h p hp))).2.1
    · rw [lawLed_total G n r.needs hn t, G.led_total hj t]
theorem lawLed_pos (G : GoodBook rs) : ∀ (n : Nat) (needs : List (Str × Int)), (∀ x ∈ needs, x.1 ∈ (rs.take n).map (·.name)) → Pos needs → Pos (lawLed rs n needs)
  | 0, _, _, _ => fun _ h => nomatch h
  | n + 1, needs, h, hp => by
    refine fold_pos hp (fun p hq => ?_) fun _ h => nomatch h
    obtain ⟨r, hr, e, _, hn, hb, _⟩ := G.at (h p hq)
    rw [← e, needsOf_row G hr]
    exact lawLed_pos G n r.needs hn fun y hy => by have := (hb y hy).1; omega
end
end PM

/-! a book grows -/
namespace PM
open PySem L2
section
variable {rs : List PRow}
theorem ledTo_total (G : GoodBook rs) {nm : Str} (hnm : nm ∉ rs.map (·.name)) {needs : List (Str × Int)} (hn : ∀ x ∈ needs, x.1 ∈ rs.map (·.name)) (hp : Pos needs) :
    ((ledTo ((ledOf rs).map (·.1) ++ [nm]) (ledOf rs) needs).map (·.1)).Nodup ∧ Pos (ledTo ((ledOf rs).map (·.1) ++ [nm]) (ledOf rs) needs) ∧ Alk (ledTo ((ledOf rs).map (·.1) ++ [nm]) (ledOf rs) needs) (total rs needs) := by
  rw [ledOf_names]
  have hk : ∀ x ∈ needs, x.1 ∈ rs.map (·.name) ++ [nm] ∧ ∀ m, getA (ledOf rs) x.1 = some m → ∀ y ∈ m, y.1 ∈ rs.map (·.name) ++ [nm] := fun x hx => ⟨List.mem_append_left _ (hn x hx), fun m hm z hz => List.mem_append_left _ ((G.led_all _ (getA_mem hm)).subset (List.mem_map.mpr ⟨z, hz, rfl⟩))⟩
  have keys := ledRaw_keys hk
  have nd : (rs.map (·.name) ++ [nm]).Nodup := by
    refine List.nodup_append.mpr ⟨G.nd, List.nodup_cons.mpr ⟨(by simp), List.nodup_nil⟩, ?_⟩
    intro a ha b hb hab
    rw [List.mem_singleton] at hb
    subst hb hab
    exact hnm ha
  have nn : Nng (ledRaw (rs.map (·.name) ++ [nm]) (ledOf rs) needs) := by
    rw [ledRaw_eq]
    refine fold_nng hp (fun p hp => (led_at G (hn p hp)).2.2.1) fun y hy => ?_
    obtain ⟨s, _, rfl⟩ := List.mem_map.mp hy
    exact Int.le_refl _
  refine ⟨nd.sublist (ledTo_sub hk), fun y hy => of_decide_eq_true (List.mem_filter.mp hy).2, fun t => ?_⟩
  unfold ledTo
  rw [filter_alk (by rw [keys]; exact nd) nn t, ledRaw_eq]
  refine fold_alk (fun p hp => ?_) (fun t => ?_) t
  · obtain ⟨h1, h2, _⟩ := led_at G (hn p hp)
    rw [show (getA (ledOf rs) p.1).getD [] = ledN rs p.1 from rfl]
    exact ⟨h2, h2, fun _ => rfl⟩
  · unfold valA
    cases e : getA ((rs.map (·.name) ++ [nm]).map fun s => ((s, 0) : Str × Int)) t with
    | none => rfl
    | some v =>
      obtain ⟨s, _, hs⟩ := List.mem_map.mp (getA_mem e)
      cases hs
      rfl
theorem GoodBook.snoc (G : GoodBook rs) (h12 : rs.length < 12) {r : PRow} (R : GoodRow (rs.map (·.name)) r) {n : Nat} (hn : rs.length ≤ n) (hs : ((lawLed rs n r.needs).map (·.2)).sum ≤ 200) : GoodBook (rs ++ [r]) := by
  have hp : Pos r.needs := fun y hy => by have := (R.many y hy).1; omega
  have hk : ∀ x ∈ r.needs, x.1 ∈ (rs.take n).map (·.name) := fun x hx => by rw [List.take_of_length_le hn]; exact R.known x hx
  obtain ⟨q1, q2, q3⟩ := ledTo_total G R.new R.known hp
  have es : ((ledTo ((ledOf rs).map (·.1) ++ [r.name]) (ledOf rs) r.needs).map (·.2)).sum = ((lawLed rs n r.needs).map (·.2)).sum :=
    alk_sum q1 (lawLed_fine G n r.needs hk).nd q2 (lawLed_pos G n r.needs hk hp) fun t => by rw [q3 t, lawLed_total G n r.needs hk t]
  refine ⟨by rw [List.length_append, List.length_singleton]; omega, fun i x hi => ?_, fun p hp => ?_⟩
  · by_cases h : i < rs.length
    · rw [List.getElem?_append_left h] at hi
      rw [List.take_append_of_le_length (by omega)]
      exact G.row i x hi
    · have : i = rs.length := by
        have := (List.getElem?_eq_some_iff.mp hi).1
        rw [List.length_append, List.length_singleton] at this
        omega
      subst this
      rw [List.getElem?_append_right (Nat.le_refl _), Nat.sub_self] at hi
      cases hi
      rw [List.take_left]
      exact R
  · rw [ledOf_snoc] at hp
    rcases List.mem_append.mp hp with hp | hp
    · exact G.led p hp
    · rw [List.mem_singleton] at hp
      subst hp
      rw [es]
      exact hs
theorem GoodBook.nil : GoodBook [] := ⟨by decide, fun i r h => by simp at h, fun p h => nomatch h⟩
/-- a book cut -/
theorem GoodBook.cut (G : GoodBook rs) (n : Nat) : GoodBook (rs.take n) := by
  refine ⟨by have := G.len; rw [List.length_take]; omega, fun i r hi => ?_, fun p hp => G.led p (ledOf_sub n p hp)⟩
  have hin : i < n := by
    have := (List.getElem?_eq_some_iff.mp hi).1
    rw [List.length_take] at this
    omega
  rw [List.getElem?_take_of_lt hin] at hi
  rw [List.take_take, Nat.min_eq_left (Nat.le_of_lt hin)]
  exact G.row i r hi
end
/-- the law's names -/
abbrev signs12 : Str := "abcdefghijkl"
def nameAt (k : Nat) : Str := ("p" : Str) ++ ⟨#[signs12.cps.toList.getD k 0]⟩
theorem nameAt_ok : ∀ k : Fin 12, isNameM (nameAt k) = true := by decide +kernel
theorem nameAt_ne : ∀ i j : Fin 12, nameAt i = nameAt j → i = j := by decide +kernel
/-- the books the law makes -/
structure MyBook (rs : List PRow) : Prop where
  good : GoodBook rs
  names : ∀ i r, rs[i]? = some r → r.name = nameAt i
theorem MyBook.new {rs : List PRow} (M : MyBook rs) (h : rs.length < 12) : nameAt rs.length ∉ rs.map (·.name) := by
  intro z
  obtain ⟨r, hr, e⟩ := List.mem_map.mp z
  obtain ⟨i, hi⟩ := List.getElem?_of_mem hr
  have hl := (List.getElem?_eq_some_iff.mp hi).1
  rw [M.names i r hi] at e
  have := nameAt_ne ⟨i, by omega⟩ ⟨rs.length, h⟩ e
  have := Fin.mk.inj this
  omega
theorem MyBook.snoc {rs : List PRow} (M : MyBook rs) (h12 : rs.length < 12) {r : PRow} (hr : r.name = nameAt rs.length) (lot : 1 ≤ r.lot ∧ r.lot ≤ 99) (lead : 0 ≤ r.lead ∧ r.lead ≤ 30) (nd : (r.needs.map (·.1)).Nodup) (known : ∀ x ∈ r.needs, x.1 ∈ rs.map (·.name))
    (many : ∀ x ∈ r.needs, 1 ≤ x.2 ∧ x.2 ≤ 9) (few : r.steps.length ≤ 5) (steps : ∀ x ∈ r.steps, (0 ≤ x.1 ∧ x.1 < 6) ∧ 1 ≤ x.2 ∧ x.2 ≤ 99) {n : Nat} (hn : rs.length ≤ n) (hs : ((lawLed rs n r.needs).map (·.2)).sum ≤ 200) : MyBook (rs ++ [r]) := by
  refine ⟨M.good.snoc h12 ⟨by rw [hr]; exact nameAt_ok ⟨rs.length, h12⟩, by rw [hr]; exact M.new h12, lot, lead, nd, known, many, few, steps⟩ hn hs, fun i x hi => ?_⟩
  by_cases h : i < rs.length
  · rw [List.getElem?_append_left h] at hi
    exact M.names i x hi
  · have : i = rs.length := by
      have := (List.getElem?_eq_some_iff.mp hi).1
      rw [List.length_append, List.length_singleton] at this
      omega
    subst this
    rw [List.getElem?_append_right (Nat.le_refl _), Nat.sub_self] at hi
    cases hi
    exact hr
structure NsOk (rs : List PRow) (ns : List (Str × Int)) : Prop where
  nd : (ns.map (·.1)).Nodup
  known : ∀ x ∈ ns, x.1 ∈ rs.map (·.name)
  many : ∀ x ∈ ns, 1 ≤ x.2 ∧ x.2 ≤ 9
theorem NsOk.nil (rs : List PRow) : NsOk rs [] := ⟨List.nodup_nil, (fun _ h => nomatch h), (fun _ h => nomatch h)⟩
theorem NsOk.rev {rs : List PRow} {ns : List (Str × Int)} (h : NsOk rs ns) : NsOk rs ns.reverse := ⟨by rw [List.map_reverse]; exact (List.reverse_perm _).nodup_iff.mpr h.nd, fun x hx => h.known x (List.mem_reverse.mp hx), fun x hx => h.many x (List.mem_reverse.mp hx)⟩
theorem NsOk.len {rs : List PRow} {ns : List (Str × Int)} (h : NsOk rs ns) : ns.length ≤ rs.length := by
  have := nodup_sub_length h.nd (l' := rs.map (·.name)) fun x hx => by
    obtain ⟨y, hy, rfl⟩ := List.mem_map.mp hx
    exact h.known y hy
  simpa using this
def StOk (st : List (Int × Int)) : Prop := st.length ≤ 5 ∧ ∀ x ∈ st, (0 ≤ x.1 ∧ x.1 < 6) ∧ 1 ≤ x.2 ∧ x.2 ≤ 99
end PM

/-! what the law asks -/
namespace PM
open PySem L2
section
variable {rs : List PRow}
end
end PM

namespace PM
open PySem L2 WK
/-! who holds a piece, from it up -/
def Fl.up (fs : Fl) (k : Nat) : Option Nat := (fs.pcs[k]?).bind (·.above)
def Fl.chain (fs : Fl) : Nat → Nat → List Nat
  | 0, _ => []
  | n + 1, k => match fs.up k with
    | some u => u :: fs.chain n u
    | none => []
/-- a holder's part stands behind its pieces' parts in the book -/
theorem FlI.up_rank {fs : Fl} (I : FlI fs) {k u : Nat} (h : fs.up k = some u) : ∃ p q, fs.pcs[k]? = some p ∧ fs.pcs[u]? = some q ∧ p.above = some u ∧ ∀ n, q.part ∈ (fs.rs.take (n + 1)).map (·.name) → p.part ∈ (fs.rs.take n).map (·.name) := by
  unfold Fl.up at h
  cases hp : fs.pcs[k]? with
  | none => rw [hp] at h; cases h
  | some p =>
    rw [hp] at h
    have ha : p.above = some u := h
    obtain ⟨q, hq, hk⟩ := (I.pc k p hp).upper u ha
    refine ⟨p, q, rfl, hq, ha, fun n hn => ?_⟩
    obtain ⟨r, hr1, _, _, _, hr5⟩ := (I.pc u q hq).row
    obtain ⟨z, hz1, hz2⟩ := List.mem_map.mp (hr5 k hk p hp)
    obtain ⟨r', _, _, hr3', hr4', _⟩ := I.good.at hn
    have hrow : PM.rowOf fs.rs q.part = some r' := by
      unfold PM.rowOf
      rw [← List.head?_filter, hr3']
      rfl
    have : r' = r := Option.some.inj (hrow.symm.trans hr1)
    subst this
    rw [← hz2]
    exact hr4' z hz1
/-- how deep a piece can be -/
def Fl.Lv (fs : Fl) (k n : Nat) : Prop := ∃ p, fs.pcs[k]? = some p ∧ p.part ∈ (fs.rs.take n).map (·.name)
theorem Fl.Lv.zero {fs : Fl} {k : Nat} (h : fs.Lv k 0) : False := by
  obtain ⟨p, _, h2⟩ := h
  rw [List.take_zero] at h2
  cases h2
def Fl.kids (fs : Fl) (k : Nat) : List Nat := match fs.pcs[k]? with
  | some p => pcsOf p.holds
  | none => []
inductive Fl.Bel (fs : Fl) : Nat → Nat → Prop
  | one {x k : Nat} : fs.up x = some k → Fl.Bel fs x k
  | step {x y k : Nat} : fs.up x = some y → Fl.Bel fs y k → Fl.Bel fs x k
theorem Fl.Bel.trans {fs : Fl} {x y k : Nat} (h : fs.Bel x y) (g : fs.Bel y k) : fs.Bel x k := by
  induction h with
  | one h => exact .step h g
  | step h _ ih => exact .step h (ih g)
/-- from the upper end -/
theorem Fl.Bel.top {fs : Fl} {x k : Nat} (h : fs.Bel x k) : ∃ y, fs.up y = some k ∧ (x = y ∨ fs.Bel x y) := by
  induction h with
  | one h => exact ⟨_, h, .inl rfl⟩
  | step h _ ih =>
    obtain ⟨y, h1, h2⟩ := ih
    refine ⟨y, h1, .inr ?_⟩
    rcases h2 with rfl | h2
    · exact .one h
    · exact .step h h2
theorem Fl.Bel.ex {fs : Fl} (I : FlI fs) {x k : Nat} (h : fs.Bel x k) : (∃ p, fs.pcs[x]? = some p) ∧ ∃ p, fs.pcs[k]? = some p := by
  induction h with
  | one h => obtain ⟨p, q, hp, hq, _⟩ := I.up_rank h; exact ⟨⟨p, hp⟩, q, hq⟩
  | step h _ ih => obtain ⟨p, q, hp, hq, _⟩ := I.up_rank h; exact ⟨⟨p, hp⟩, ih.2⟩
/-- all that a piece holds, one behind the other -/
def Fl.kinP (fs : Fl) : Nat → Nat → List Nat
  | 0, _ => []
  | n + 1, k => (fs.kids k).flatMap fun x => x :: fs.kinP n x
/-! the chain -/
/-- how many may be below -/
def Fl.Ht (fs : Fl) (x a : Nat) : Prop := ∀ j, fs.Lv x j → a < j
/-- the one in which a piece is at last -/
def Fl.topOf (fs : Fl) (k : Nat) : Nat := ((k :: fs.chain 13 k).getLast?).getD k
end PM

namespace PM
open PySem L2 WK
/-! what a piece holds of each lot -/
def Fl.ownL (fs : Fl) (k j : Nat) : Int := match fs.pcs[k]? with
  | some p => ((lotsOf p.holds).map fun e => if e.1 = j then e.2 else 0).sum
  | none => 0
def Fl.tot (fs : Fl) : Nat → Nat → Nat → Int
  | 0, _, _ => 0
  | n + 1, k, j => fs.ownL k j + ((fs.kids k).map fun x => fs.tot n x j).sum
theorem ownL_at {fs : Fl} {k j : Nat} {p : Pc} (h : fs.pcs[k]? = some p) : fs.ownL k j = ((lotsOf p.holds).map fun e => if e.1 = j then e.2 else 0).sum := by unfold Fl.ownL; rw [h]
theorem sum_ite_lt {j n : Nat} (hj : n ≤ j) : ∀ {l : List (Nat × Int)}, (∀ x ∈ l, x.1 < n) → (l.map fun e => if e.1 = j then e.2 else 0).sum = 0
  | [], _ => rfl
  | a :: l, h => by
    have h1 := h a (.head _)
    have h2 := sum_ite_lt hj (l := l) fun x hx => h x (.tail _ hx)
    simp only [List.map_cons, List.sum_cons]
    rw [if_neg (by omega), h2]
    rfl
theorem FlI.ownL_out {fs : Fl} (I : FlI fs) (k : Nat) {j : Nat} (hj : fs.lots.length ≤ j) : fs.ownL k j = 0 := by
  unfold Fl.ownL
  cases hp : fs.pcs[k]? with
  | none => rfl
  | some p => exact sum_ite_lt hj fun x hx => ((I.pc k p hp).lots x hx).1
theorem sum_zero {α : Type} {f : α → Int} : ∀ {l : List α}, (∀ x ∈ l, f x = 0) → (l.map f).sum = 0
  | [], _ => rfl
  | a :: l, h => by
    simp only [List.map_cons, List.sum_cons]
    rw [h a (.head _), sum_zero fun x hx => h x (.tail _ hx)]
    rfl
/-- the pieces that a piece holds, rising; of which lots how many -/
def Fl.kinS (fs : Fl) (k : Nat) : List Nat := (List.range fs.pcs.length).filter fun x => decide (x ∈ fs.kinP 12 k)
def Fl.kinT (fs : Fl) (k : Nat) : List (Nat × Int) := ((List.range fs.lots.length).filter fun j => decide (0 < fs.tot 12 k j)).map fun j => (j, fs.tot 12 k j)
/-- a dict of lots: how many of each -/
structure LotIs (N : Nat) (m : List (Nat × Int)) (f : Nat → Int) : Prop where
  nd : (m.map (·.1)).Nodup
  get : ∀ j v, (j, v) ∈ m ↔ 0 < f j ∧ v = f j
  lt : ∀ j, 0 < f j → j < N
  nn : ∀ j, 0 ≤ f j
theorem LotIs.nil (N : Nat) : LotIs N [] fun _ => 0 := ⟨List.nodup_nil, fun j v => ⟨fun h => (nomatch h), fun h => absurd h.1 (by decide)⟩, fun j h => absurd h (by decide), fun _ => Int.le_refl _⟩
theorem LotIs.len {N : Nat} {m : List (Nat × Int)} {f : Nat → Int} (h : LotIs N m f) : m.length ≤ N := by
  have := nodup_sub_length h.nd (l' := List.range N) fun x hx => by
    obtain ⟨⟨j, v⟩, hm, rfl⟩ := List.mem_map.mp hx
    exact List.mem_range.mpr (h.lt j ((h.get j v).mp hm).1)
  rwa [List.length_map, List.length_range] at this
theorem LotIs.congr {N : Nat} {m : List (Nat × Int)} {f g : Nat → Int} (h : LotIs N m f) (e : ∀ j, f j = g j) : LotIs N m g := by
  have : f = g := funext e
  rw [← this]
  exact h
/-- what sorted tells of it -/
theorem LotIs.sorted {N : Nat} {m ys : List (Nat × Int)} {f : Nat → Int} (h : LotIs N m f) (hp : ys.Perm m) (hs : ys.Pairwise fun a b => a.1 < b.1) : ys = ((List.range N).filter fun j => decide (0 < f j)).map fun j => (j, f j) := by
  have key : ∀ (a b : List (Nat × Int)), (∀ x, x ∈ a ↔ x ∈ b) → a.Pairwise (fun a b => a.1 < b.1) → b.Pairwise (fun a b => a.1 < b.1) → a = b := by
    intro a
    induction a with
    | nil =>
      intro b he _ _
      cases b with
      | nil => rfl
      | cons y b => exact nomatch (he y).mpr (.head _)
    | cons x a ih =>
      intro b he ha hb
      cases b with
      | nil => exact nomatch (he x).mp (.head _)
      | cons y b =>
        obtain ⟨a1, a2⟩ := List.pairwise_cons.mp ha
        obtain ⟨b1, b2⟩ := List.pairwise_cons.mp hb
        have exy : x = y := by
          rcases List.mem_cons.mp ((he x).mp (.head _)) with e | hx
          · exact e
          · rcases List.mem_cons.mp ((he y).mpr (.head _)) with e | hy
            · exact e.symm
            · have := a1 y hy
              have := b1 x hx
              omega
        subst exy
        rw [ih b (fun z => ?_) a2 b2]
        constructor
        · intro hz
          rcases List.mem_cons.mp ((he z).mp (.tail _ hz)) with e | h
          · have := a1 z hz
            rw [e] at this
            omega
          · exact h
        · intro hz
          rcases List.mem_cons.mp ((he z).mpr (.tail _ hz)) with e | h
          · have := b1 z hz
            rw [e] at this
            omega
          · exact h
  refine key _ _ (fun x => ?_) hs ?_
  · rw [hp.mem_iff, List.mem_map]
    obtain ⟨j, v⟩ := x
    rw [h.get]
    constructor
    · rintro ⟨h1, h2⟩
      exact ⟨j, List.mem_filter.mpr ⟨List.mem_range.mpr (h.lt j h1), decide_eq_true h1⟩, by rw [h2]⟩
    · rintro ⟨i, hi, e⟩
      cases e
      exact ⟨of_decide_eq_true (List.mem_filter.mp hi).2, rfl⟩
  · rw [List.pairwise_map]
    exact (List.Pairwise.sublist List.filter_sublist List.pairwise_lt_range).imp fun h => h
/-! one more of a lot -/
def getN (m : List (Nat × Int)) (j : Nat) : Option Int := (m.find? fun p => decide (p.1 = j)).map (·.2)
def putN (m : List (Nat × Int)) (j : Nat) (v : Int) : List (Nat × Int) := if (m.any fun p => decide (p.1 = j)) = true then m.map (fun p => if p.1 = j then (p.1, v) else p) else m ++ [(j, v)]
theorem getN_of {m : List (Nat × Int)} {j : Nat} {v : Int} (nd : (m.map (·.1)).Nodup) (h : (j, v) ∈ m) : getN m j = some v := by
  unfold getN
  induction m with
  | nil => cases h
  | cons p m ih =>
    obtain ⟨n1, n2⟩ := List.nodup_cons.mp nd
    rcases List.mem_cons.mp h with rfl | h
    · rw [List.find?_cons_of_pos (by simp)]
      rfl
    · rw [List.find?_cons_of_neg (by
        intro e
        have e' : p.1 = j := of_decide_eq_true e
        exact n1 (by show p.1 ∈ _; rw [e']; exact List.mem_map.mpr ⟨(j, v), h, rfl⟩))]
      exact ih n2 h
theorem getN_no {m : List (Nat × Int)} {j : Nat} (h : ∀ v, (j, v) ∉ m) : getN m j = none := by
  unfold getN
  cases e : m.find? fun p => decide (p.1 = j) with
  | none => rfl
  | some p =>
    have h1 := List.mem_of_find?_eq_some e
    have h2 : p.1 = j := by simpa using List.find?_some e
    exact absurd (h2 ▸ h1 : (j, p.2) ∈ m) (h p.2)
theorem LotIs.getD {N : Nat} {m : List (Nat × Int)} {f : Nat → Int} (h : LotIs N m f) (j : Nat) : (getN m j).getD 0 = f j := by
  by_cases hj : 0 < f j
  · rw [getN_of h.nd ((h.get j (f j)).mpr ⟨hj, rfl⟩)]
    rfl
  · rw [getN_no fun v hv => hj ((h.get j v).mp hv).1]
    have := h.nn j
    show (0 : Int) = f j
    omega
end PM

namespace WK
open PySem PySem.Spec PyProof.Rows L2 PM
abbrev Led.ads (N : Led) : List Addr := N.map (·.1)
section
variable {F : Ent} {B H B' H' : Hp} {L L' : Led}
theorem Ok.thin (S : Ok F B L H) (h : L'.Sublist L) : Ok F B L' H :=
  ⟨S.ex, S.nd.sublist (h.map _), fun q hq => S.own q (h.subset hq), S.ex0, S.keep, S.kA, S.fB, fun q hq => S.fL q (h.subset hq)⟩
/-- the cells of a floor, that are looked at only -/
structure FH (CF CL CI : Addr) (B H : Hp) (A : AFl) : Prop where
  nd : ((FL CF CL CI A).map (·.1)).Nodup
  own : ∀ p ∈ FL CF CL CI A, H p.1 = some p.2 ∧ B p.1 = none
variable {CF CL CI : Addr} {A : AFl} {P : APc} {x : ALot} {k j : Nat} {o : HO} {a : Addr}
end
/-! d.items() as a value; sorted of it; sorted of a dict of any size -/
def itemsV (p d : Addr) : HO := .ext fun h => h.IsItemsView p d
section
variable {X : Cx}
def rItemsK : V → List V → Hp → VK → Prop := fun x xs H Q => ∃ (a : Addr) (kvs : List (Key × V)), x = .ref a ∧ xs = [] ∧ Rd H a (.dK kvs) ∧ ∀ p, H p = none → Q (.ref p) (upd H p (itemsV p a))
/-- sorted(d) of ints, any number of them -/
def rSortDB : List V → Hp → VK → Prop := fun xs H Q => ∃ (a : Addr) (kvs : List (Key × V)) (ks : List Int), xs = [.ref a] ∧ Rd H a (.dK kvs) ∧ kvs.map (·.1) = ks.map Sum.inl ∧ ks.length ≤ 1000 ∧
    ∀ (ys : List Int) (p : Addr), ys.Perm ks → ys.Pairwise (· ≤ ·) → H p = none → Q (.ref p) (upd H p (.lst (ys.map V.int)))
/-- sorted(d.items()), keys and values ints -/
def rSortItK : List V → Hp → VK → Prop := fun vs H Q => ∃ (p a : Addr) (m : List (Int × Int)), vs = [.ref p] ∧ H p = some (itemsV p a) ∧ Rd H a (.dK (m.map fun e => ((.inl e.1 : Key), V.int e.2))) ∧ m.length ≤ 1000 ∧ (m.map (·.1)).Nodup ∧
  ∀ (H' : Hp) (l : Addr) (ps : List (Addr × Int × Int)), Ex H H' → (ps.map (·.2)).Perm m → (ps.map (·.2)).Pairwise (fun a b => a.1 < b.1) → H l = none → H' l = some (.lst (ps.map fun z => V.ref z.1)) →
    (∀ z ∈ ps, H z.1 = none ∧ z.1 ≠ l ∧ H' z.1 = some (.tup [.int z.2.1, .int z.2.2])) → Q (.ref l) H'
def adrV : Value → Addr
  | .ref b => b
  | _ => 0
def kfOf (zs : List (Addr × Int × Int)) : Value → Int × Int
  | .ref b => ((zs.find? fun z => decide (z.1 = b)).map (·.2)).getD (0, 0)
  | _ => (0, 0)
end
section
variable {P : Program} {w : World} {K : PySem.W.Frag} {H B : Hp} {Q : VK} {F : Ent} {L : Led} {a p : Addr} {kvs : List (Key × V)}
end
end WK

/-! set(a list of ints), sorted(a set of ints), of any size -/
namespace WK
open PySem PySem.Spec PyProof.Rows L2
def seenI (ks : Nat → Int) (i : Nat) (k : Int) : Bool := (List.range i).any fun j => decide (ks j = k)
def unlikeI (ks : Nat → Int) : Nat → Nat
  | 0 => 0
  | i + 1 => if seenI ks i (ks i) = true then unlikeI ks i else unlikeI ks i + 1
section
variable {prog : Program} {w : World} {A : Around} {R : Result → Shared → Prop} {I : Addr} {fp wr : List Addr} {G : Array GenState → Array GenState → Prop} {n : Nat} {P : Nat → Value → Prop} {St : Nat → Shared → Prop}
end
section
variable {prog : Program} {w : World} {A : Around} {E : Value → Shared → Prop} {s : Shared}
end
section
variable {X : Cx}
def rSortSetB (w : World) : List V → Hp → VK → Prop := fun vs H Q => ∃ (a : Addr) (S : Int → Bool) (n : Nat), vs = [V.ref a] ∧ H a = some (SetO w a S n) ∧ n ≤ 1000 ∧
  ∀ (ns : List Int) (p : Addr), ns.Pairwise (· < ·) → (∀ k : Int, k ∈ ns ↔ S k = true) → H p = none → Q (.ref p) (upd H p (.lst (ns.map V.int)))
end
section
variable {P : Program} {w : World} {K : PySem.W.Frag} {H B : Hp} {Q : VK} {F : Ent} {L : Led} {a : Addr}
end
end WK

namespace WK
open PySem PySem.Spec PyProof.Rows L2 PySem.W PySem.Calls
/-! a, *r = a tuple -/
section
variable {prog : Program} {w : World} {A : Around} {E : Value → Shared → Prop}
end
section
variable {X : Cx} {pos : Pos}
def gStarT (K : PySem.W.Frag) (n i : Nat) (t : TGs) : TG := fun v σ H Q => ∃ a xs, v = .ref a ∧ SqT K H a xs ∧ n ≤ xs.length + 1 ∧ xs.length ≤ 16384 ∧
  ∀ p, H p = none → t (xs.take i ++ [.ref p] ++ (xs.drop i).drop (xs.length + 1 - n)) σ (upd H p (.lst ((xs.drop i).take (xs.length + 1 - n)))) Q
end
end WK

/-! an own exception class called with keywords alone: BaseException.__new__, then its own __init__ -/
namespace WK
open PySem PySem.Spec PyProof.Rows L2 PySem.HandSPX
section
variable {M : Model} {Ar : Around} {E : Value → Shared → Prop} {hp : Heap} {gs : Array GenState} {dr : Drawn} {tk : Nat} {ost : OsState}
variable {nm q : Str} {C N : Addr} {bs bm bmB : List Value} {hdct : Bool} {sn : List Str} {sub : List Value} {ab : Bool} {col : Option Bool} {dd : Option Addr} {k0 k1 k2 k3 k5 : Option Value} {Bn newId initId : String} {kw : List (Str × Value)}
theorem exk_check (F : ExcBaseFacts Bn newId initId bmB) (hT : ∀ T : String, bm.contains (.type T) = bmB.contains (.type T)) {Q : Unit → Shared → Prop}
    (hC : hp.get? C = some (excClassObj nm q C N bs bm hdct sn sub ab col dd k0 k1 k2 k3 k5 newId)) (hq : Q () ⟨hp, gs, dr, tk, ost⟩) : wpAny M Ar (checkBuiltinCall newId ⟨[.ref C], kw⟩) Q E ⟨hp, gs, dr, tk, ost⟩ := by
  have c1 : (Value.ref C :: bm).contains (.type Bn) = true := by rw [List.contains_cons, hT, F.hasB, Bool.or_true]
  have c2 := F.noStar
  simp only [checkBuiltinCall, F.newKind, F.newSplit, F.newRow]
  repeat (first
    | refine wpAny_loadPart_at hC ?_
    | (refine wpAny_isSubtype_exc hC ?_; rw [c1])
    | refine wpAny_staticBase_exc hC ?_
    | refine wpAny_madeBy_exc hC ?_
    | simp only [bne_self_eq_false, Bool.false_eq_true, if_false]
    | wp_step)
  exact hq
end
section
variable {prog : Program} {w : World} {Ar : Around} {E : Value → Shared → Prop} {R : Result → Shared → Prop} {hp : Heap} {gs : Array GenState} {dr : Drawn} {tk : Nat} {ost : OsState}
variable {nm q : Str} {C N : Addr} {bs bm bmB : List Value} {hdct : Bool} {sn : List Str} {sub : List Value} {ab : Bool} {col : Option Bool} {dd : Option Addr} {k0 k1 k2 k3 k5 : Option Value} {Bn newId initId : String} {kw : List (Str × Value)}
theorem exk_new (F : ExcBaseFacts Bn newId initId bmB) (hT : ∀ T : String, bm.contains (.type T) = bmB.contains (.type T))
    (hC : hp.get? C = some (excClassObj nm q C N bs bm hdct sn sub ab col dd k0 k1 k2 k3 k5 newId))
    (hq : R (.ok (.ret (.ref (hp.objs.size + 1)))) ⟨(hp.push (PySem.W.kdv_tup [])).push (excO C hp.objs.size), gs, dr, tk, ost⟩) :
    codeAny (model prog w) Ar (.builtin newId ⟨[.ref C], kw⟩) R ⟨hp, gs, dr, tk, ost⟩ := by
  have c0 := F.ends
  have c1 : (Value.ref C :: bm).contains (.type Bn) = true := by rw [List.contains_cons, hT, F.hasB, Bool.or_true]
  have c2 : (Value.ref C :: bm).contains (.type "AttributeError") = false := by rw [List.contains_cons, hT, F.noAttr]; rfl
  have c3 : (Value.ref C :: bm).contains (.type "NameError") = false := by rw [List.contains_cons, hT, F.noName]; rfl
  have c4 : ([] : List Value).length ≤ sizeLine := Nat.zero_le _
  refine codeAny_builtinAt F.entry ?_
  unfold Builtin.«BaseException.__new__»
  refine PySem.wpAt_bind ?_
  show PySem.wpAt _ _ _ (stack >>= _) _ _ _
  refine PySem.wpAt_bind (PySem.wpAt_stack fun _ _ => PySem.wpAt_of_wpAny ?_)
  wp_walk
  refine PySem.wpAt_of_wpAny ?_
  rw [F.owner]
  repeat (first
    | with_reducible refine wpAny_madeHere_exc F.canon hC ?_
    | with_reducible refine wpAny_loadPart_at hC ?_
    | (with_reducible refine wpAny_isSubtype_exc hC ?_; first | rw [c1] | rw [c2] | rw [c3])
    | wp_step)
  show R _ _
  rw [Heap.size_push]
  exact hq
theorem exk_typecall (F : ExcBaseFacts Bn newId initId bmB) (hT : ∀ T : String, bm.contains (.type T) = bmB.contains (.type T)) {fI : Addr} {Q : Fin → Shared → Prop}
    (hC : hp.get? C = some (excClassObj nm q C N bs bm hdct sn sub ab col dd k0 k1 k2 k3 k5 newId))
    (hi : W.Looks (model prog w) hp (typeLookup (.ref C) "__init__") (some (.ref fI))) (hb : ∀ self, W.Looks (model prog w) hp (bindSpecial (.ref fI) self) (.ref fI, [self]))
    (hq : codeAny (model prog w) Ar (.call (.ref fI) ⟨[.ref (hp.objs.size + 1)], kw⟩) (fun r s1 => match r with | .ok (.ret v) => v = .none ∧ Q (.done (.ret (.ref (hp.objs.size + 1)))) s1 | .ok _ => False | .error e => E e s1)
      ⟨(hp.push (PySem.W.kdv_tup [])).push (excO C hp.objs.size), gs, dr, tk, ost⟩) :
    wpAny (model prog w) Ar (Builtin.«type.__call__» ⟨[.ref C], kw⟩) Q E ⟨hp, gs, dr, tk, ost⟩ := by
  repeat (first
    | with_reducible refine wpAny_loadPart_at hC ?_
    | with_reducible refine wpAny_madeBy_exc hC ?_
    | wp_step)
  refine codeAny_call_builtin_code (Code.quiet_builtin _ F.quiet) (exk_check F hT hC (exk_new F hT hC ?_))
  show wpAny _ _ _ _ _ _
  have kp : ∀ b o, hp.get? b = some o → ((hp.push (PySem.W.kdv_tup [])).push (excO C hp.objs.size)).get? b = some o := fun b o e => Heap.get?_push_of_some _ (Heap.get?_push_of_some _ e)
  have hC1 := kp _ _ hC
  have hg : ((hp.push (PySem.W.kdv_tup [])).push (excO C hp.objs.size)).get? (hp.objs.size + 1) = some (excO C hp.objs.size) := by heap_get
  have c5 : (Value.ref C :: bm).contains (.ref C) = true := by simp
  have li := hi.keeps kp
  have lb := (hb (.ref (hp.objs.size + 1))).keeps kp
  unfold isInstance
  repeat (first
    | with_reducible refine wpAny_loadPart_at hg ?_
    | (with_reducible refine wpAny_isSubtype_exc hC1 ?_; rw [c5])
    | wp_step)
  show wpAny _ _ (typeLookup (.ref C) _) _ _ _
  refine li.at ?_
  refine wpAny_holding (wpAny_bind (lb.at ?_))
  refine wpAny_bind (wpAny_call (codeAny_mono hq fun r s1 z => ?_))
  cases r with
  | error e => exact z
  | ok fl =>
    cases fl with
    | ret v =>
      obtain ⟨rfl, z⟩ := z
      first
      | exact wpAny_pure (wpAny_pure z)
      | (wp_walk; exact z)
    | next => exact z.elim
    | brk => exact z.elim
    | cont => exact z.elim
theorem exk_call (F : ExcBaseFacts Bn newId initId bmB) (hT : ∀ T : String, bm.contains (.type T) = bmB.contains (.type T)) {fI : Addr}
    (hC : hp.get? C = some (excClassObj nm q C N bs bm hdct sn sub ab col dd k0 k1 k2 k3 k5 newId))
    (hi : W.Looks (model prog w) hp (typeLookup (.ref C) "__init__") (some (.ref fI))) (hb : ∀ self, W.Looks (model prog w) hp (bindSpecial (.ref fI) self) (.ref fI, [self]))
    (hq : codeAny (model prog w) (Ar.under (.builtin "type.__call__" ⟨[.ref C], kw⟩)) (.call (.ref fI) ⟨[.ref (hp.objs.size + 1)], kw⟩) (W.InitBack (hp.objs.size + 1) R)
      ⟨(hp.push (PySem.W.kdv_tup [])).push (excO C hp.objs.size), gs, dr, tk, ost⟩) :
    codeAny (model prog w) Ar (.call (.ref C) ⟨[], kw⟩) R ⟨hp, gs, dr, tk, ost⟩ := by
  have c1 := tc_lookup
  have c2 := tc_bind (.ref C)
  have hTy : (⟨hp, gs, dr, tk, ost⟩ : Shared).TypeIs (.ref C) "type" := ⟨_, hC, rfl⟩
  have hck : ∀ {M : Model} {Ar : Around} {E : Value → Shared → Prop} {Q : Unit → Shared → Prop}, Q () ⟨hp, gs, dr, tk, ost⟩ → wpAny M Ar (checkBuiltinCall "type.__call__" ⟨[.ref C], kw⟩) Q E ⟨hp, gs, dr, tk, ost⟩ := fun {M Ar E Q} hq => by
    have c3 := tc_sub
    simp only [checkBuiltinCall, tc_kind, tc_split]
    repeat (any_goals (first | assumption | with_reducible refine wpAny_loadPart_at hC ?_ | with_reducible refine wpAny_onRaise ?_ | with_reducible refine wpAny_map ?_ | wp_step))
  refine codeAny_of_tree ?_
  show wpAny _ _ (callAny (.ref C) _) _ _ _
  repeat (any_goals (first | assumption | with_reducible refine wpAny_loadPart_at hC ?_ | wp_step))
  refine ⟨rfl, ?_⟩
  refine codeAny_call_builtin_at (Code.quiet_builtin _ (by decide +kernel)) entry_typeCall (hck (exk_typecall F hT hC hi hb ?_))
  refine codeAny_mono hq fun r s1 z => ?_
  rcases r with e | (v | _ | _ | _) <;> exact z
end
end WK

/-! own exceptions: raised, let out of a def -/
namespace WK
open PySem PySem.Spec PyProof.Rows L2
/-! ### B.__init__(self, x), B a class of one's own over ValueError without own __init__ -/
structure ExBase (K : PySem.W.Frag) (CB : Addr) (mc : Value) : Prop where
  ga : PySem.W.specialIn K (.ref CB) "__getattribute__" = some (some (.builtin "type.__getattribute__"))
  rd : PySem.W.readsIn K CB mc = true
  vi : PySem.W.findCls K (.ref CB) mc "__init__" = some (.val (.builtin "ValueError.__init__"))
section
variable {X : Cx} {e : Expr} {es : List Expr} {ta : TA} {x : Str} {CB : Addr} {mc : Value} {p1 p2 pos : Pos}
theorem pe_baseinit {pl : Sem Bool} (EB : ExBase X.K CB mc) (hm : X.mg x = some (.ref CB)) (hg : Gl X x) (ha : PA X (e :: es) ta) (hdb : (x == ("__debug__" : Str)) = false := by decide)
    (hcl : eval (.Call (.Attribute (.Name x p1) "__init__" p2) (e :: es) [] pos) X.env = (do
      let who ← eval (.Name x p1) X.env
      standAt p2.atName
      let (fn, front) ← holding [who] (getMethod who "__init__" pl)
      callWith pos fn front (backTo pos (starEach (e :: es) X.env)) (backToKw pos (keywordEach [] X.env))) := by rfl)
    (hst : starEach (e :: es) X.env = (false, eval e X.env) :: starEach es X.env := by rfl) (hno : (backTo pos (starEach es X.env)).any (·.1) = false := by rfl) :
    PE X (.Call (.Attribute (.Name x p1) "__init__" p2) (e :: es) [] pos) (tVeI X.K ta) := by
  refine ⟨fun pins s σ H Q I hw => ?_⟩
  refine PySem.W.methodCall_KW (ld_glob I hg hm ?_ hdb) hcl
  refine PySem.W.method_cls I.kIn EB.ga (PySem.W.cls_value I.kIn EB.rd EB.vi (by decide +kernel) ?_)
  show wpAny _ _ (callWith pos (Value.builtin "ValueError.__init__") [] (backTo pos (starEach (e :: es) X.env)) []) _ _ _
  refine PyProof.Rows.callWith_method1 (thn (ha.run pos pins _ σ H _ (I.tok _) hw) fun us s1 ⟨vs, H1, I1, r1, a, C, ws, hvs, hlen, T, hat, q⟩ => ?_) hst hno
  subst hvs
  cases r1 with
  | @cons _ u0 _ ur ra rest =>
    obtain rfl : u0 = Value.ref a := ra
    have few : ur.length ≤ sizeLine := by
      rw [← Paired.length rest, sizeLine_eq]
      omega
    exact oinit_ok T I1 hat few fun s2 J => ⟨.non, H1, J, rfl, q⟩
end
/-! ### C(f = e): an own exception with one keyword -/
/-- what its __init__ promises -/
def spExI (C : Addr) (f : Str) : Sp := fun vs H Q _ => ∃ a y, vs = [.ref a, y] ∧ H a = some (exo a C none) ∧ ∀ dx, H dx = none → dx ≠ a → Q .non (upd (upd H dx (exd dx [(f, y)])) a (exo a C (some dx)))
/-- what the written part tells of such a class: its field f, its __init__ -/
structure ExK (P : Program) (w : World) (K : PySem.W.Frag) (mg : Str → Option Value) (base : Heap) (x : Str) (C : Addr) (f : Str) : Prop where
  oex : OexC K C
  mgx : mg x = some (.ref C)
  ini : ∃ (fI : Addr) (fd : FuncData) (g : List Value → List Value → List Value), FnOk P w K mg base CX0 1 fI fd ["self", f] (spExI C f) ∧
    PySem.W.findIn K (.ref C) "__init__" = some (some (.ref fI)) ∧ PySem.W.typeIn K (.ref fI) = some (.type "function") ∧ KBn K fd ["self", f] 1 [f] g (fun vs zs => vs ++ zs)
theorem kbn1 {K : PySem.W.Frag} {fd : FuncData} {f : Str} (h : ∀ u z : Value, bindArgs fd ⟨[u], [(f, z)]⟩ = pure [(("self" : Str), u), (f, z)]) : KBn K fd ["self", f] 1 [f] (fun us ws => us ++ ws) (fun vs zs => vs ++ zs) where
  to := fun s us ws _ h1 h2 => by
    match us, ws, h1, h2 with
    | [u], [z], _, _ => exact .of_eq (h u z)
  rel := fun r1 r2 => r1.append r2
/-- the reading of raise C(f = e) -/
def tRzK (C : Addr) (f : Str) (W : WX) (te : TE) : TS := fun _ σ H => te σ H fun y H1 => ∀ dx, H1 dx = none → W (.ref C) (some dx) σ (upd H1 dx (.xd [(f, y)]))
section
variable {X : Cx} {e : Expr} {te : TE} {x f : Str} {C : Addr} {p pos kp : Pos}
theorem pmk_exK (T : ExK X.prog X.w X.K X.mg X.base x C f) (hr : Room 2 X.A) (hg : Gl X x) (he : PE X e te) (hdb : (x == ("__debug__" : Str)) = false := by decide)
    (hall : (backToKw pos (keywordEach [⟨some f, e, kp⟩] X.env)).all (·.1.isSome) = true := by rfl) (hks : (backToKw pos (keywordEach [⟨some f, e, kp⟩] X.env)).filterMap (·.1) = [f] := by rfl)
    (hno : ((backTo pos (starEach [] X.env)).any (·.1) || (backToKw pos (keywordEach [⟨some f, e, kp⟩] X.env)).any (·.1.isNone)) = false := by rfl) :
    PMk X (.Call (.Name x p) [] [⟨some f, e, kp⟩] pos) (fun σ H Q => te σ H fun y H1 => ∀ dx, H1 dx = none → Q (.ref C) (some dx) (upd H1 dx (.xd [(f, y)]))) := by
  intro pins s σ H Q I hw
  obtain ⟨fI, fd, g, FI, iC, tI, hb⟩ := T.ini
  obtain ⟨nm, q, N, bs, bm, sn, sub, ab, col, dd, k0, k1, k2, k3, k5, hC, hbm⟩ := T.oex.cls
  refine wpAny_Call_Name_kw (ld_glob I hg T.mgx ?_ hdb)
  refine PySem.W.callWith_KW0 (h₀ := X.base) I.ok.mod.kin T.oex.kC hall ?_ hno
  have hkw : PK X [⟨some f, e, kp⟩] (tCons te tNil) := pk_cons he pk_nil
  refine thn (hkw.run pos pins s σ H (fun zs H1 => match zs with | [y] => ∀ dx, H1 dx = none → Q (.ref C) (some dx) (upd H1 dx (.xd [(f, y)])) | _ => False) I hw) fun ws s1 ⟨zs, H1, I1, rz, q1⟩ => ⟨I1.kIn, ?_⟩
  rw [hks]
  cases rz with
  | nil => exact q1.elim
  | @cons y u zs2 ws2 ru r2 =>
    cases r2 with
    | cons _ _ => exact q1.elim
    | nil =>
      show wpAny _ _ (call (.ref C) [] ([f].zip [u])) _ _ _
      obtain ⟨hp, gs, dr, tk, ost⟩ := s1
      have hsz : hp.objs.size ≤ hp.objs.size + 1 := Nat.le_succ _
      have hn : H1 (hp.objs.size + 1) = none := I1.hok.fresh hsz
      have kk : ∀ b o, hp.get? b = some o → ((hp.push (PySem.W.kdv_tup [])).push (PySem.HandSPX.excO C hp.objs.size)).get? b = some o := fun b o e => Heap.get?_push_of_some _ (Heap.get?_push_of_some _ e)
      have hget : ((hp.push (PySem.W.kdv_tup [])).push (PySem.HandSPX.excO C hp.objs.size)).get? (hp.objs.size + 1) = some (PySem.HandSPX.excO C hp.objs.size) := by heap_get
      have I2 : Inv X pins σ (upd H1 (hp.objs.size + 1) (exo (hp.objs.size + 1) C none)) ⟨(hp.push (PySem.W.kdv_tup [])).push (PySem.HandSPX.excO C hp.objs.size), gs, dr, tk, ost⟩ :=
        I1.laid (t' := tk) (a := hp.objs.size + 1) (o := exo (hp.objs.size + 1) C none) (h' := (hp.push (PySem.W.kdv_tup [])).push (PySem.HandSPX.excO C hp.objs.size)) kk hsz (exo_ok hget)
      have r3 : Vals (([V.ref (hp.objs.size + 1)] : List V) ++ [y]) (g [Value.ref (hp.objs.size + 1)] [u]) := hb.rel (vs := [V.ref (hp.objs.size + 1)]) (zs := [y]) (.cons rfl .nil) (.cons ru .nil)
      refine wpAny_call (exk_call PySem.F.excBase_ValueError (fun Y => PySem.HandSPX.refsVE_contains Y bm hbm) (I1.kIn _ _ hC) (PySem.W.looks_findIn I1.kIn iC) (fun self => PySem.W.bind_fn I1.kIn self tI)
        (codeAny_mono (FI.run _ X.stack _ _ ⟨[.ref (hp.objs.size + 1)], [f].zip [u]⟩ (g [Value.ref (hp.objs.size + 1)] [u]) [V.ref (hp.objs.size + 1), y]
          (fun v H2 => v = .non ∧ ∃ dx, dx ≠ hp.objs.size + 1 ∧ H1 dx = none ∧ H2 = upd (upd (upd H1 (hp.objs.size + 1) (exo (hp.objs.size + 1) C none)) dx (exd dx [(f, y)])) (hp.objs.size + 1) (exo (hp.objs.size + 1) C (some dx)))
          (fun _ _ _ => False) (hr.make C [] ([f].zip [u])) (I2.env0.make C [] ([f].zip [u])) (hb.to _ [.ref (hp.objs.size + 1)] [u] I2.kIn rfl rfl) r3
          ⟨hp.objs.size + 1, y, rfl, upd_same, fun dx h1 h2 => ⟨rfl, dx, h2, by rw [upd_ne h2] at h1; exact h1, rfl⟩⟩) fun r s2 hq => ?_))
      cases r with
      | error er => exact (show False from hq).elim
      | ok fl =>
        cases fl with
        | ret v0 =>
          obtain ⟨v, H2, os2, bare2, un2, hok2, rv, ev, dx, nd, hd1, eH⟩ := hq
          subst ev
          obtain ⟨h2, g2, d2, t2, os'⟩ := s2
          have ea : H2 (hp.objs.size + 1) = some (exo (hp.objs.size + 1) C (some dx)) := by rw [eH, upd_same]
          have ed : H2 dx = some (exd dx [(f, y)]) := by rw [eH, upd_ne nd, upd_same]
          have eh : upd (del H2 (hp.objs.size + 1)) dx (.xd [(f, y)]) = upd H1 dx (.xd [(f, y)]) := by
            funext b
            by_cases hb1 : b = dx
            · rw [hb1, upd_same, upd_same]
            · rw [upd_ne hb1, upd_ne hb1]
              by_cases hb2 : b = hp.objs.size + 1
              · rw [hb2, del_same, hn]
              · rw [del_ne hb2, eH, upd_ne hb2, upd_ne hb1, upd_ne hb2]
          exact ⟨rv, mk_end (raises_own T.oex.exC T.oex.tyC) I1 hsz kk un2 hok2 os2 bare2 ea ed hd1 (by rw [eh]; exact q1 dx hd1)⟩
        | next => exact False.elim hq
        | brk => exact False.elim hq
        | cont => exact False.elim hq
/-- raise C(f = e) -/
theorem ps_rzK {W : WX} {rpos : Pos} (T : ExK X.prog X.w X.K X.mg X.base x C f) (tk : Takes X W) (hr : Room 2 X.A) (hg : Gl X x) (hc : X.calm = true) (he : PE X e te) (hdb : (x == ("__debug__" : Str)) = false := by decide)
    (hall : (backToKw pos (keywordEach [⟨some f, e, kp⟩] X.env)).all (·.1.isSome) = true := by rfl) (hks : (backToKw pos (keywordEach [⟨some f, e, kp⟩] X.env)).filterMap (·.1) = [f] := by rfl)
    (hno : ((backTo pos (starEach [] X.env)).any (·.1) || (backToKw pos (keywordEach [⟨some f, e, kp⟩] X.env)).any (·.1.isNone)) = false := by rfl) :
    PS X (.Raise (some (.Call (.Name x p) [] [⟨some f, e, kp⟩] pos)) none rpos) (tRzK C f W te) :=
  ps_raise hc tk (pmk_exK T hr hg he hdb hall hks hno)
end
/-! ### C("..") : one without own __init__ -/
structure ExT (K : PySem.W.Frag) (mg : Str → Option Value) (x : Str) (C : Addr) : Prop where
  exIn : PySem.W.excIn K C [.type "ValueError", .type "Exception", .type "BaseException", .type "object"] "ValueError.__new__" = true
  mgx : mg x = some (.ref C)
  kC : PySem.W.keepIn K (.ref C) = true
  exC : PySem.W.subIn K (.ref C) (.type "BaseException") = some true
  tyC : PySem.W.typeIn K (.ref C) = some (.type "type")
def tRzT (C : Addr) (W : WX) : TS := fun _ σ H => W (.ref C) none σ H
section
variable {X : Cx} {x m : Str} {C : Addr} {j : Nat} {p p2 pos rpos : Pos}
end
/-! ### calls of what may raise -/
section
variable {P : Program} {w : World} {K : PySem.W.Frag} {mg : Str → Option Value} {base : Heap}
def FnGX (P : Program) (w : World) (K : PySem.W.Frag) (mg : Str → Option Value) (base : Heap) (k : Nat) (x : Str) (ps : List Str) (sp : Sp) : Prop :=
  ∃ f fd, FnOk P w K mg base (L2.CX P w) k f fd ps sp ∧ mg x = some (.ref f) ∧ PySem.W.keepIn K (.ref f) = true ∧ Binds K fd ps []
def MtGX (P : Program) (w : World) (K : PySem.W.Frag) (mg : Str → Option Value) (base : Heap) (k : Nat) (C : Addr) (m : Str) (ps : List Str) (sp : Sp) : Prop :=
  ∃ f fd, FnOk P w K mg base (L2.CX P w) k f fd ps sp ∧ Meth K C m f ∧ Binds K fd ps [] ∧ Cls K C
def tFnX (sp : Sp) (E : XK) (t : TA) : TE := fun σ H Q => t σ H fun vs H1 => sp vs H1 Q E
def tMthX (C : Addr) (m : Str) (sp : Sp) (E : XK) (ta : TE) (t : TA) : TE := fun σ H Q => ta σ H fun x H1 => ∃ a dx fs, x = .ref a ∧ H1 a = some (.ins C dx fs) ∧ fs.lookup m = none ∧
  t σ H1 fun vs H2 => sp (x :: vs) H2 Q E
theorem tFnX_eq {sp : Sp} {E : XK} {t : TA} : tCall sp [] E t = tFnX sp E t := by
  unfold tCall tFnX
  simp only [List.append_nil]
/-- it keeps the one promise, or the other -/
theorem _root_.L2.FnOk.orK {j k : Nat} {f : Addr} {fd : FuncData} {ps : List Str} {CX : CXT} {sp sp' : Sp} (F0 : FnOk P w K mg base CX j f fd ps sp) (F1 : FnOk P w K mg base CX k f fd ps sp') (h : j ≤ k) : FnOk P w K mg base CX k f fd ps (fun vs H Q E => sp vs H Q E ∨ sp' vs H Q E) :=
  ⟨fun vs H Q E q => q.elim (F0.len vs H Q E) (F1.len vs H Q E), fun A outer s H args us vs Q E hr he hb hv hs => hs.elim
    (fun z => (F0.mono h).run A outer s H args us vs Q E hr he hb hv z) (fun z => F1.run A outer s H args us vs Q E hr he hb hv z)⟩
/-- no exception: also as one that might -/
theorem _root_.L2.FnOk.mayX {k : Nat} {f : Addr} {fd : FuncData} {ps : List Str} {sp : Sp} (F0 : FnOk P w K mg base CX0 k f fd ps sp) : FnOk P w K mg base (L2.CX P w) k f fd ps sp :=
  ⟨F0.len, fun A outer s H args us vs Q E hr he hb hv hs => codeAny_mono (F0.run A outer s H args us vs Q E hr he hb hv hs) fun r s1 q => by
    cases r with
    | ok fl => cases fl <;> exact q
    | error e => exact (show False from q).elim⟩
/-- it keeps the one promise, or the other -/
theorem _root_.L2.FnOk.eitherX {j k : Nat} {f : Addr} {fd : FuncData} {ps : List Str} {sp sp' : Sp} (F0 : FnOk P w K mg base CX0 j f fd ps sp) (F1 : FnOk P w K mg base (L2.CX P w) k f fd ps sp') (h : j ≤ k) : FnOk P w K mg base (L2.CX P w) k f fd ps (fun vs H Q E => sp vs H Q E ∨ sp' vs H Q E) :=
  ⟨fun vs H Q E q => q.elim (F0.len vs H Q E) (F1.len vs H Q E), fun A outer s H args us vs Q E hr he hb hv hs => hs.elim
    (fun z => (F0.mono h).mayX.run A outer s H args us vs Q E hr he hb hv z) (fun z => F1.run A outer s H args us vs Q E hr he hb hv z)⟩
variable {X : Cx} {k : Nat} {C : Addr} {x m : Str} {ps : List Str} {sp : Sp} {E : XK} {e o : Expr} {es : List Expr} {p pos apos : Pos} {t : TA} {ta : TE}
theorem pe_fnX (GX : FnGX X.prog X.w X.K X.mg X.base k x ps sp) (hr : Room k X.A) (hx : Passes (L2.CX X.prog X.w) X E) (hg : Gl X x) (ha : PA X (e :: es) t) (hdb : (x == ("__debug__" : Str)) = false := by decide)
    (hst : starEach (e :: es) X.env = (false, eval e X.env) :: starEach es X.env := by rfl) (hno : (backTo pos (starEach es X.env)).any (·.1) = false := by rfl) : PE X (.Call (.Name x p) (e :: es) [] pos) (tFnX sp E t) := by
  obtain ⟨f, fd, FX, hm, hk, hb⟩ := GX
  rw [← tFnX_eq]
  exact pe_call FX hr hg hm hk hb .nil hx ha hdb hst hno
def MthXQ (C : Addr) (m : Str) (sp : Sp) (E : XK) (t : TA) (σ : L2.St) (Q : VK) : VK := fun x H1 => ∃ a dx fs, x = .ref a ∧ H1 a = some (.ins C dx fs) ∧ fs.lookup m = none ∧ t σ H1 fun vs H2 => sp (x :: vs) H2 Q E
theorem r_fnX {σ : L2.St} {H : Hp} {Q : VK} (kk : t σ H fun vs H1 => sp vs H1 Q E) : tFnX sp E t σ H Q := kk
theorem r_mthX {σ : L2.St} {H : Hp} {Q : VK} (kk : ta σ H (MthXQ C m sp E t σ Q)) : tMthX C m sp E ta t σ H Q := kk
theorem mthXQ {σ : L2.St} {H : Hp} {Q : VK} {a dx : Addr} {fs : List (Str × V)} (h : H a = some (.ins C dx fs)) (hl : fs.lookup m = none) (kk : t σ H fun vs H2 => sp (.ref a :: vs) H2 Q E) : MthXQ C m sp E t σ Q (.ref a) H := ⟨a, dx, fs, rfl, h, hl, kk⟩
/-- what is refused, ready to be let out -/
def RzQ (C : Addr) (f : Str) (W : WX) (σ : L2.St) : VK := fun y H1 => ∀ dx, H1 dx = none → W (.ref C) (some dx) σ (upd H1 dx (.xd [(f, y)]))
theorem r_rzK {σ : L2.St} {H : Hp} {D : Ends} {W : WX} {f : Str} {te : TE} (kk : te σ H (RzQ C f W σ)) : tRzK C f W te D σ H := kk
theorem r_rzT {σ : L2.St} {H : Hp} {D : Ends} {W : WX} (kk : W (.ref C) none σ H) : tRzT C W D σ H := kk
end
end WK

/-! lambdas handed on; what is asked of a caught error -/
namespace WK
open PySem PySem.Spec PyProof.Rows L2
/-! ### a table of code objects in one's own ledger -/
def TabL (B : Hp) (q : Str) (ps : Array Value) : Prop := TriplesOk ps.toList ∧ ∀ (pos : Pos) (cv : Value), codeAmong pos ps.toList = some cv → ∃ c, cv = .ref c ∧ B c = some (LamX.CodeO c q)
theorem TabL.up {B B' : Hp} {q : Str} {ps : Array Value} (h : TabL B q ps) (e : Ex B B') : TabL B' q ps := ⟨h.1, fun pos cv hc => let ⟨c, e1, e2⟩ := h.2 pos cv hc; ⟨c, e1, e _ _ e2⟩⟩
theorem TabL.nil {B : Hp} {q : Str} : TabL B q #[] := ⟨True.intro, fun pos cv hc => by
  have z : codeAmong pos [] = some cv := hc
  simp [codeAmong] at z⟩
/-- what making a lambda leaves of the table -/
def NewTab (H : Hp) (P : Addr) (q : Str) (ps : Array Value) (H1 : Hp) : Prop := H1 = H ∨ ∃ (c : Addr) (more : Array Value), H c = none ∧ H1 = upd (upd H P (.tbl (ps ++ more))) c (LamX.CodeO c q) ∧ TriplesOk (ps ++ more).toList ∧ ∀ (pos : Pos) (cv : Value), codeAmong pos (ps ++ more).toList = some cv → codeAmong pos ps.toList = some cv ∨ cv = .ref c
theorem Ok.newTab {F : Ent} {B H H1 : Hp} {L : Led} {P : Addr} {q : Str} {ps : Array Value} (S : Ok F B ((P, .tbl ps) :: L) H) (T : TabL B q ps) (n : NewTab H P q ps H1) : ∃ B' ps', Ex B B' ∧ TabL B' q ps' ∧ Ok F B' ((P, .tbl ps') :: L) H1 := by
  rcases n with rfl | ⟨c, more, hc, rfl, h1, h2⟩
  · exact ⟨B, ps, Ex.refl _, T, S⟩
  · have hP : H P = some (.tbl ps) := (S.own _ (.head _)).1
    have ncP : c ≠ P := fun z => by rw [z, hP] at hc; cases hc
    have S1 := S.mut (o' := .tbl (ps ++ more))
    have hc1 : upd H P (.tbl (ps ++ more)) c = none := by rw [upd_ne ncP]; exact hc
    refine ⟨upd B c (LamX.CodeO c q), ps ++ more, S1.exB hc1, ⟨h1, fun pos cv h => ?_⟩, S1.newB hc1⟩
    rcases h2 pos cv h with z | z
    · exact (T.up (S1.exB hc1)).2 pos cv z
    · exact ⟨c, z, upd_same⟩
section
variable {X : Cx} {pins : List (Addr × Obj)} {σ : L2.St} {H : Hp} {s : Shared}
/-- a lambda without defaults is made -/
theorem lam_new {c P : Addr} {q : Str} {ps : Array Value} {params : Arguments} {body : Expr} {scope : Scope} {pos : Pos} {E : Value → Shared → Prop} {Q : Value → Shared → Prop} (I : Inv X pins σ H s) (TB : LamX.TabB X.base X.mg c P) (hcode : X.env.code = .ref c) (hq : X.env.qual ++ "<lambda>" = q)
    (hP : H P = some (.tbl ps)) (ht : TriplesOk ps.toList) (ha : ∀ (pos : Pos) (cv : Value), codeAmong pos ps.toList = some cv → ∃ c, cv = .ref c ∧ H c = some (LamX.CodeO c q)) (hdef : defaultsOf params X.env = ([], [])) (hfree : ∀ y ∈ scope.names, y.2 = .free → ∃ c, X.env.cells.lookup y.1 = some c)
    (kk : ∀ (f c' : Addr) (pm ctv : Value) (H1 : Hp) (s' : Shared), Inv X pins σ H1 s' → NewTab H P q ps H1 → s'.heap.get? f = some (PySem.W.kla_obj "<lambda>" (X.env.qual ++ "<lambda>") params body scope (cloFrom X.env.cells scope.names []) pm c' ctv) →
      H1 f = none → f ∉ frs X.stack → H1 c' = some (LamX.CodeO c' q) → Q (.ref f) s') :
    wpAny (model X.prog X.w) X.A (eval (.Lambda params body scope pos) X.env) Q E s := by
  subst hq
  refine PySem.W.kla_eval hdef ?_
  have hPm : s.heap.get? P = some { cls := .none, data := .fields ps } := I.hok P _ hP
  have bP : s.heap.BuiltinsAt X.mg P := TB.bm.keeps I.bk
  have far : ∀ f, s.heap.objs.size ≤ f → f ∉ frs X.stack := fun f hf z => by
    rcases List.mem_cons.mp (I.stkSub _ z) with e | e
    · have old := I.lt
      rw [← e] at old
      exact Nat.lt_irrefl _ (Nat.lt_of_lt_of_le old hf)
    · exact I.nofs hf e
  cases hc : codeAmong pos ps.toList with
  | some cv =>
    obtain ⟨c', rfl, hco⟩ := ha pos cv hc
    refine PySem.W.kla_makeFunctionHit (mg := X.mg) (c := c) (P := P) (ps := ps) (closure_ok hfree) I.ok.glob (I.mod.glob.keeps I.bk) hcode (TB.code.keeps I.bk) hPm ht hc bP fun ctv h' tk hx hsz => ?_
    exact kk h'.objs.size c' ((X.mg "__name__").getD .none) ctv H _ (I.kept (t' := tk) fun b o e => Heap.get?_push_of_some _ (hx b o e)) (.inl rfl) (Heap.get?_push_size _ rfl) (I.hok.fresh hsz) (far _ hsz) hco
  | none =>
    refine PySem.W.kla_makeFunction (mg := X.mg) (c := c) (P := P) (ps := ps) (closure_ok hfree) I.ok.glob (I.mod.glob.keeps I.bk) hcode (TB.code.keeps I.bk) hPm ht hc TB.gP bP fun c' ctv h' tk hx hge hlt hrec htb => ?_
    obtain ⟨c2, oc, vs, t, e2, hoc, hd, hv⟩ := hrec
    cases e2
    have hsz : s.heap.objs.size ≤ h'.objs.size := Nat.le_trans hge (Nat.le_of_lt hlt)
    have nC : H c' = none := I.hok.fresh hge
    have I1 := LamX.inv_table (t' := tk) (more := #[rawInt pos.line, rawInt pos.col, .ref c']) (h' := h'.push (PySem.W.kla_obj "<lambda>" (X.env.qual ++ "<lambda>") params body scope (cloFrom X.env.cells scope.names []) ((X.mg "__name__").getD .none) c' ctv)) I hP
      (fun b o hb e => Heap.get?_push_of_some _ (hx b o hb e)) (Heap.get?_push_of_some _ htb) hge ⟨oc, vs, t, Heap.get?_push_of_some _ hoc, hd, hv⟩
    have eL : (ps ++ #[rawInt pos.line, rawInt pos.col, .ref c']).toList = ps.toList ++ [rawInt pos.line, rawInt pos.col, .ref c'] := by simp
    have n1 : h'.objs.size ≠ c' := Nat.ne_of_gt hlt
    have n2 : h'.objs.size ≠ P := Nat.ne_of_gt (Nat.lt_of_lt_of_le (Heap.lt_size hPm) hsz)
    refine kk h'.objs.size c' ((X.mg "__name__").getD .none) ctv _ _ I1 (.inr ⟨c', _, nC, rfl, by rw [eL]; exact PySem.TriplesOk_snoc _ _ _ _ ht, fun p' cv hcv => ?_⟩) (Heap.get?_push_size _ rfl) ?_ (far _ hsz) upd_same
    · rw [eL] at hcv
      exact LamX.among_app _ ht hcv
    · rw [upd_ne n1, upd_ne n2]
      exact I.hok.fresh hsz
end
/-- x(lambda: body), the table of one's own -/
def tLamK (P : Addr) (q : Str) (TT : (XK → Hp → VK → Prop) → Hp → VK → Prop) (t : XK → TE) : TE := fun σ H Q => ∃ ps, H P = some (.tbl ps) ∧ TriplesOk ps.toList ∧ (∀ (pos : Pos) (cv : Value), codeAmong pos ps.toList = some cv → ∃ c, cv = .ref c ∧ H c = some (LamX.CodeO c q)) ∧
  ∀ H1, NewTab H P q ps H1 → TT (fun E H' Q' => t E σ H' Q') H1 Q
section
variable {X : Cx}
theorem pe_lamK {TT : (XK → Hp → VK → Prop) → Hp → VK → Prop} {x a q : Str} {g c P : Addr} {k : Nat} {pg : Arguments} {bg : List Stmt} {sg : Scope} {dV kV doc pm cdv ct oc : Value} {an od : Option Addr} {osl : Array (Option Value)} {Ng : List Str}
    {params : Arguments} {body : Expr} {scope : Scope} {t : XK → TE} {p lpos pos : Pos} (hm : X.mg x = some (.ref g)) (hk : PySem.W.keepIn X.K (.ref g) = true)
    (lk : X.K.lookup g = some ⟨oc, od, .func (PySem.W.fnOf x x pg bg sg dV kV doc pm an cdv ct), osl⟩) (hcg : PySem.W.codeIn X.K cdv x = true) (hb : L2.Binds X.K (PySem.W.fnOf x x pg bg sg dV kV doc pm an cdv ct) [a] [])
    (TB : LamX.TabB X.base X.mg c P) (hcode : X.env.code = .ref c) (hq : X.env.qual ++ "<lambda>" = q) (hr : Room (k + 2) X.A) (hG : LamX.GivesTo X Ng x sg g cdv bg a q TT)
    (hg : Gl X x) (Sg : FnScope Ng [a] sg) (hNg : Ng[0]? = some a) (hva : Vis sg a) (L : LamX.LamS X.env.scope scope) (hdef : defaultsOf params X.env = ([], []))
    (hbind : ∀ (q : Str) (cl : List (Str × Addr)) (pm cv ctv : Value), bindArgs (PySem.W.kla_fn "<lambda>" q params body scope cl pm cv ctv) ⟨[], []⟩ = pure [])
    (hbody : ∀ (A : Around) (outer : List Env) (s : Shared) (H : Hp) (E : XK) (f c' : Addr), Room k (A.deeper (LamX.lamEnv X scope s.heap.objs.size f c')) → PE (LamX.lamCx X A outer s H E scope f c') body (t E))
    (hdb : (x == ("__debug__" : Str)) = false := by decide) (hd : (a == ("__debug__" : Str)) = false := by decide) (hcd : (a == ("__classdict__" : Str)) = false := by decide) :
    PE X (.Call (.Name x p) [.Lambda params body scope lpos] [] pos) (tLamK P q TT t) := by
  subst hq
  refine ⟨fun pins s σ H Q I hw => ?_⟩
  obtain ⟨ps, hP, ht, hT, kk⟩ := hw
  refine wpAny_Call_Name_kw (ld_glob I hg hm ?_ hdb)
  refine PySem.W.callWith_K (h₀ := X.base) I.ok.mod.kin hk ?_ (by rfl) (by rfl)
  show wpAny _ _ (spliced ((false, eval (.Lambda params body scope lpos) X.env) :: backTo pos (starEach [] X.env))) _ _ s
  refine Calls.spliced_cons (lam_new I TB hcode rfl hP ht hT hdef (L.has I.ok) fun f c' pm' ctv H1 s1 I1 nt hf hfn hfr hco => ?_)
  refine Calls.spliced_nil ⟨I1.kIn, ?_⟩
  have rc : codeAny (model X.prog X.w) X.A (.call (.ref g) ⟨[.ref f], []⟩) (CR C8.CX0 X.stack X.prog X.w H1 s1 Q C8.E0) s1 := by
    refine LamX.run_ofS (N := Ng) (ps := [a]) (us := [.ref f]) (vs := [.ref f]) lk hcg Sg hr I1.env0 (hb s1 [.ref f] I1.kIn rfl) (.cons rfl .nil) rfl fun hr1 => ?_
    obtain ⟨tz, hz, hqz⟩ := hG f c' s1 H1 Q (fun E H' Q' => t E σ H' Q') (fun W pn xe E p1 p2 tk hW => LamX.pe_act (i := 0) I1 L hf hfn hfr (hbind _ _ _ _ _) tk hW hr1 (fun A outer s H hr2 => hbody A outer s H E f c' hr2) hNg hva hd hcd) hco (kk H1 nt)
    exact ⟨tz, hz.nox, hqz⟩
  refine wpAny_call (codeAny_mono rc fun r s2 hz => ?_)
  cases r with
  | error e => exact (show False from hz).elim
  | ok fl =>
    cases fl with
    | ret u => exact I1.after hz
    | next => exact False.elim hz
    | brk => exact False.elim hz
    | cont => exact False.elim hz
end
/-! ### isinstance of a caught error, with its dict or without -/
def XdAt (H : Hp) : Option Addr → Prop
  | none => True
  | some d => ∃ fs, H d = some (.xd fs)
def rIsD (K : PySem.W.Frag) (D a : Addr) (d : Option Addr) : List V → Hp → VK → Prop := fun xs H Q => ∃ (c : V) (cv : Value) (b : Bool), xs = [.ref a, c] ∧ (∀ u, RelV c u → u = cv) ∧ PySem.W.kitOne K (.ref D) cv = some b ∧ XdAt H d ∧ Q (.bl b) H
theorem call_isD {X : Cx} {a D : Addr} {d : Option Addr} {oe : Obj} {pn : List (Addr × Obj)} (C : ExcC X.K D) (hz : Zc (.ref D) d oe) (hf : ∃ vs, oe.data = .fields vs) : CallR (X.suite a ((a, oe) :: pn)) (.builtin "isinstance") (rIsD X.K D a d) := by
  intro pins s σ H xs us Q I r hw
  obtain ⟨c, cv, b, rfl, hcv, e, hd, q⟩ := hw
  cases r with
  | cons rx rr =>
    cases rr with
    | cons rt rr =>
      cases rr
      cases rx
      have ec := hcv _ rt
      subst ec
      obtain ⟨hget, _⟩ := I.pin (a, oe) (List.mem_append.mpr (.inl List.mem_cons_self))
      obtain ⟨vs, hv⟩ := hf
      have J : ∃ od, PySem.W.InstAt s.heap a oe D od := by
        obtain ⟨oc, odd, oda, osl⟩ := oe
        obtain ⟨h1, h2⟩ := hz
        dsimp only at h1 h2 hv
        subst h1 h2 hv
        cases odd with
        | none => exact ⟨none, hget, rfl, rfl, trivial⟩
        | some dd =>
          obtain ⟨fs, hdd⟩ := hd
          have hx : ObjOk X.prog X.w H s.heap dd (.xd fs) := I.hok dd _ hdd
          obtain ⟨mA, hns, _⟩ := hx
          obtain ⟨o, ho, _⟩ := lookIn_ns hns
          exact ⟨some o, hget, rfl, rfl, ho⟩
      obtain ⟨od, J⟩ := J
      refine PySem.W.kia_one (PySem.W.kitx_exc (od := od) (ox := oe) (x := a) (C := D) ?_ C.hg C.hk C.hs C.ha C.hn C.ht C.hm) I.kIn J e (fun z => nomatch z) fun tk => ⟨.bl b, H, I.kept (t' := tk) fun _ _ z => z, rfl, q⟩
      obtain ⟨cd, hc, _⟩ := PySem.W.any_some C.hd
      rw [hc]
      rfl
/-! ### l.count(x) of data -/
def rCountD (K : PySem.W.Frag) : V → List V → Hp → VK → Prop := fun x vs H Q => ∃ (l : Addr) (xs : List V) (ds : List PyData) (y : V) (d : PyData), x = .ref l ∧ vs = [y] ∧ SqL K H l xs ∧ DpAll K H xs ds ∧ Dp K H y d ∧ PyData.plainAll ds = true ∧ d.plain = true ∧ d.depth ≤ 60 ∧ Q (.int ((ds.countP fun z => PyData.eqv z d : Nat) : Int)) H
theorem mt_countD {X : Cx} (hu : X.A.units + 64 < cLine) : MtR X "list.count" (rCountD X.K) := by
  intro pins s σ H x vs v us Q I rx rv hw
  obtain ⟨l, xs, ds, y, d, rfl, rfl, hl, hds, hy, p1, p2, p3, q⟩ := hw
  cases rx
  obtain ⟨u, rfl, ru⟩ := rv.one
  obtain ⟨its, rs, pl, _⟩ := I.list hl
  obtain ⟨as, r1⟩ := Dp.readsAll I ds _ its hds rs
  obtain ⟨bs, r2⟩ := Dp.reads I d y u hy ru
  refine PySem.SeqAt.count_list_data (vs := its.toArray) pl.isList (by simpa using r1) r2 p1 p2 (by omega) ?_
  exact ⟨.int _, H, I.kept (t' := s.toks + 1) (fun _ _ z => z), ⟨_, rfl⟩, q⟩
/-- what stays known where a heap grows -/
theorem Ok.grow {F : Ent} {B H H2 : Hp} {L : Led} (S : Ok F B L H) (e : Ex H H2) : Ok F B L H2 :=
  ⟨S.ex.trans e, S.nd, fun p hp => ⟨e _ _ (S.own p hp).1, (S.own p hp).2⟩, S.ex0, fun a o h n => e _ _ (S.keep a o h n), fun a h => let ⟨o, z⟩ := S.kA a h; ⟨o, e _ _ z⟩, S.fB, S.fL⟩
theorem Ok.growB {F : Ent} {B H H2 : Hp} {L : Led} {t : Addr} {o : HO} (S : Ok F B L H) (e : Ex H H2) (n : H t = none) (h : H2 t = some o) : Ok F (upd B t o) L H2 := by
  have S1 : Ok F (upd B t o) L (upd H t o) := S.newB n
  refine S1.grow fun a u z => ?_
  by_cases hb : a = t
  · rw [hb, upd_same] at z
    cases z
    rw [hb]
    exact h
  · rw [upd_ne hb] at z
    exact e _ _ z
theorem ix_listK (K : PySem.W.Frag) {X : Cx} (hK : X.K = K := by rfl) : IxR X (rIxL K) := by
  subst hK
  exact ix_list
theorem mt_countK (K : PySem.W.Frag) {X : Cx} (hu : X.A.units + 64 < cLine) (hK : X.K = K := by rfl) : MtR X "list.count" (rCountD K) := by
  subst hK
  exact mt_countD hu
/-- slots are as many as names -/
theorem takes_len {X : Cx} {W : WX} (tk : Takes X W) : Takes X (fun c d σ H => σ.length = X.N.length → W c d σ H) := fun u s1 ⟨a, B, sI, pins, σ, H, cls, d, e, I, nb, up, sky, na, os, ag, w⟩ => tk u s1 ⟨a, B, sI, pins, σ, H, cls, d, e, I, nb, up, sky, na, os, ag, w I.len⟩
theorem XdAt.up {H H1 : Hp} {d : Option Addr} (h : XdAt H d) (e : Ex H H1) : XdAt H1 d := by
  cases d with
  | none => trivial
  | some d => obtain ⟨fs, h⟩ := h; exact ⟨fs, e _ _ h⟩
theorem b_ValueError : bootBuiltins "ValueError" = some (.type "ValueError") := PyProof.Rows.Boot.«ValueError»
/-! ### a def whose code object is told -/
structure FunC (K : PySem.W.Frag) (x qual : Str) (st : Stmt) (f c : Addr) (fd : FuncData) : Prop where
  ex : ∃ (oc : Value) (od : Option Addr) (kV doc pm : Value) (an : Option Addr) (ct : Value) (osl : Array (Option Value)),
    fd = PySem.W.fnOf x qual (defArgs st) (defBody st) (defScope st) .none kV doc pm an (.ref c) ct ∧ K.lookup f = some ⟨oc, od, .func fd, osl⟩ ∧ PySem.W.codeIn K (.ref c) qual = true
  kp : PySem.W.keepIn K (.ref f) = true
section
variable {P : Program} {w : World} {K : PySem.W.Frag} {mg : Str → Option Value} {base : Heap}
theorem FunC.okC {x qual : Str} {st : Stmt} {f c : Addr} {fd : FuncData} {N ps : List Str} {k : Nat} {sp : Sp} (F : FunC K x qual st f c fd) (S : FnScope N ps (defScope st)) (len : ∀ vs H Q E, sp vs H Q E → vs.length = ps.length)
    (hb : ∀ (A : Around) (outer : List Env) (s : Shared) (H : Hp) (vs : List V) (Q : VK) (E : XK), Room k (A.deeper (envOfC qual (defScope st) s.heap.objs.size f (.ref c))) → sp vs H Q E →
      ∃ t, PSs (cxOf CX0 P w K mg base N qual (defScope st) f (.ref c) A outer s H E).nox (defBody st) t ∧ t { nx := fun _ H' => Q .non H', rt := Q } (start N vs) H) : FnOk P w K mg base CX0 (k + 1) f fd ps sp := by
  obtain ⟨oc, od, kV, doc, pm, an, ct, osl, rfl, lk, hcd⟩ := F.ex
  refine fn_of lk hcd S len fun A outer s H vs Q E hr hsp => ?_
  obtain ⟨t, ht, hq⟩ := hb A outer s H vs Q E hr hsp
  exact ⟨t, ht.nox, hq⟩
end
theorem lamKQ {F : Ent} {B H : Hp} {L : Led} {PT : Addr} {q : Str} {ps : Array Value} {TT : (XK → Hp → VK → Prop) → Hp → VK → Prop} {t : XK → TE} {σ : L2.St} {Q : VK} (S : Ok F B ((PT, .tbl ps) :: L) H) (T : TabL B q ps)
    (kk : ∀ B' ps' H1, Ex B B' → TabL B' q ps' → Ok F B' ((PT, .tbl ps') :: L) H1 → TT (fun E H' Q' => t E σ H' Q') H1 Q) : tLamK PT q TT t σ H Q :=
  ⟨ps, (S.own _ (.head _)).1, T.1, fun pos cv h => let ⟨c, e1, e2⟩ := T.2 pos cv h; ⟨c, e1, S.ex _ _ e2⟩, fun H1 n => let ⟨B', ps', e, T', S'⟩ := S.newTab T n; kk B' ps' H1 e T' S'⟩
/-! ### the end of a law, the tables of some of its defs told -/
theorem walk_ofTabs {l : PySem.W.OpenLaw} {n k : Nat} {q : Program} {loose : List Str} {XP : (Str → Option Value) → Heap → Prop} {YP : World → Heap → Prop} {d : DefRec} {K : Params → PySem.W.Frag} {x : Str} (ys : List Str)
    (hn : l.most = some n) (hn2 : n ≤ sizeLine) (hdf : d.params.defaults = []) (hr : Room k callerA) (hrec : ∀ y ∈ ys, ((recsOf q).find? (fun e => e.name == y)).isSome = true) (hY : ∀ (w : World) (h : Heap), YP w h → (K w.params).In h)
    (F : ∀ (w : World) (mg : Str → Option Value) (fa : Addr) (h : Heap), (K w.params).In h → h.Ns mainGlobals mg → mg d.name = some (.ref fa) → (∀ y ∈ ys, ∀ c PT, PySem.W.tabIn (K w.params) y = some (c, PT) → PySem.W.CodeHd h c PT ∧ h.get? PT = some { cls := .none, data := .fields #[] }) →
      LamX.LawAtS l w (K w.params) CX0 k n x mg fa h) :
    PySem.W.WalkO q loose XP YP l.row.toRowW d [] (fun f vs => PySem.call f vs) := by
  refine Att.attach_callB hn hdf fun w s₀ s₁ mg mb fa o pm cd doc a vs ns G Y ho hd hcd hmg hobj hints hlen hbits hg => ?_
  have KX := hY w _ Y
  obtain ⟨fd, cs, sp, hT, nT, C, hb, hsp, hF⟩ := F w mg fa _ KX G.T.g hmg fun y hy c PT e => by
    obtain ⟨e1, h1⟩ := Option.isSome_iff_exists.mp (hrec y hy)
    exact PySem.W.tab_of G.T KX h1 e
  exact LamX.law_callTs KX G.T.g G.T.b G.T.builtins G.T.nolimit hg hT nT C G.T.bmain hobj hints (Nat.le_trans hlen hn2) hr hF hb (fun H hH hS => hsp H a ns hlen hbits hH hS) fun H e s' z => z
end WK

/-! ledgers put in another order, by numbers -/
namespace WK
open PySem PySem.Spec PyProof.Rows L2
end WK

namespace PM
open PySem L2 WK
/-! lots: what was bought of each is what is left of it and what pieces hold -/
def ownP (p : Pc) (j : Nat) : Int := ((lotsOf p.holds).map fun e => if e.1 = j then e.2 else 0).sum
def Fl.heldAll (fs : Fl) (j : Nat) : Int := (fs.pcs.map fun p => ownP p j).sum
def Fl.cons (fs : Fl) (j : Nat) : Option (Str × Int) := (fs.lots[j]?).map fun x => (x.part, x.left + fs.heldAll j)
def Deed.buyOf : Deed → Option (Str × Int × Int)
  | .buy z m pr => some (z, m, pr)
  | _ => none
def buysOf (b : List Deed) : List (Str × Int × Int) := b.filterMap Deed.buyOf
def LotC (fs : Fl) : Prop := ∀ j, fs.cons j = ((buysOf fs.book)[j]?).map fun b => (b.1, b.2.1)
theorem set_same {α : Type} {l : List α} {k : Nat} {v : α} (h : l[k]? = some v) : l.set k v = l := by
  refine List.ext_getElem? fun i => ?_
  by_cases e : i = k
  · subst e
    rw [List.getElem?_set_self (List.getElem?_eq_some_iff.mp h).1, h]
  · rw [List.getElem?_set_ne (Ne.symm e)]
theorem map_set_same {α β : Type} {f : α → β} {l : List α} {k : Nat} {x y : α} (h : l[k]? = some x) (e : f y = f x) : (l.set k y).map f = l.map f := by
  rw [List.map_set, e]
  exact set_same (by rw [List.getElem?_map, h]; rfl)
theorem cons_same {fs fs' : Fl} (hl : fs'.lots = fs.lots) (hp : ∀ j, (fs'.pcs.map fun p => ownP p j) = fs.pcs.map fun p => ownP p j) : fs'.cons = fs.cons := funext fun j => by
  unfold Fl.cons Fl.heldAll
  rw [hl, hp]
theorem give_cons (n : Nat) (h : Hold) (fs : Fl) : (fs.give n h).cons = fs.cons := by
  unfold Fl.give
  cases h with
  | pc k =>
    dsimp only
    cases hq : fs.pcs[k]? with
    | none => rfl
    | some q =>
      cases hp : fs.pcs[n]? with
      | none => rfl
      | some p =>
        refine cons_same rfl fun j => ?_
        dsimp only
        rw [List.map_set, map_set_same (f := fun p => ownP p j) (y := { q with state := "within", above := some n }) hq rfl]
        refine set_same ?_
        rw [List.getElem?_map, hp]
        show some (ownP p j) = some (ownP { p with holds := p.holds ++ [.pc k], cost := p.cost + q.cost } j)
        unfold ownP
        dsimp only
        rw [lotsOf_app]
        show _ = some (((lotsOf p.holds ++ []).map _).sum)
        rw [List.append_nil]
  | lot i m =>
    dsimp only
    cases hx : fs.lots[i]? with
    | none => rfl
    | some x =>
      cases hp : fs.pcs[n]? with
      | none => rfl
      | some p =>
        refine funext fun j => ?_
        unfold Fl.cons Fl.heldAll
        dsimp only
        rw [sum_set (fun p => ownP p j) hp]
        have e1 : ownP { p with holds := p.holds ++ [.lot i m], cost := p.cost + m * x.price } j = ownP p j + if i = j then m else 0 := by
          unfold ownP
          dsimp only
          rw [lotsOf_app, List.map_append, List.sum_append]
          show _ + ((if i = j then m else 0) + 0) = _
          rw [Int.add_zero]
        rw [e1]
        by_cases e : i = j
        · subst e
          rw [List.getElem?_set_self (List.getElem?_eq_some_iff.mp hx).1, hx, if_pos rfl]
          show some (x.part, (x.left - m) + _) = some (x.part, x.left + _)
          congr 2
          omega
        · rw [List.getElem?_set_ne e, if_neg e]
          congr 1
          refine funext fun y => ?_
          congr 1
          omega
theorem giveAll_cons (n : Nat) : ∀ (hs : List Hold) (fs : Fl), (fs.giveAll n hs).cons = fs.cons
  | [], _ => rfl
  | h :: hs, fs => (giveAll_cons n hs (fs.give n h)).trans (give_cons n h fs)
theorem buys_snoc (b : List Deed) (d : Deed) : buysOf (b ++ [d]) = buysOf b ++ d.buyOf.toList := by
  unfold buysOf
  rw [List.filterMap_append]
  cases h : d.buyOf with
  | none => simp [h]
  | some v => simp [h]
theorem buys_no {b : List Deed} {d : Deed} (h : d.buyOf = none) : buysOf (b ++ [d]) = buysOf b := by
  rw [buys_snoc, h]
  exact List.append_nil _
theorem LotC.same {fs fs' : Fl} (C : LotC fs) (hc : fs'.cons = fs.cons) (hb : buysOf fs'.book = buysOf fs.book) : LotC fs' := fun j => by rw [hc, hb]; exact C j
theorem LotC.lots {fs : Fl} (C : LotC fs) {j : Nat} {x : Lt} (h : fs.lots[j]? = some x) : ∃ b, (buysOf fs.book)[j]? = some b ∧ b.1 = x.part ∧ b.2.1 = x.left + fs.heldAll j := by
  have := C j
  unfold Fl.cons at this
  rw [h] at this
  cases hb : (buysOf fs.book)[j]? with
  | none => rw [hb] at this; cases this
  | some b =>
    rw [hb] at this
    have e := Option.some.inj this
    exact ⟨b, rfl, (congrArg Prod.fst e).symm, (congrArg Prod.snd e).symm⟩
theorem LotC.len {fs : Fl} (C : LotC fs) : (buysOf fs.book).length = fs.lots.length := by
  have key : ∀ j, ((buysOf fs.book)[j]?).isSome = (fs.lots[j]?).isSome := fun j => by
    have := congrArg Option.isSome (C j)
    unfold Fl.cons at this
    rw [Option.isSome_map, Option.isSome_map] at this
    exact this.symm
  have a := key fs.lots.length
  have b := key (buysOf fs.book).length
  rw [List.getElem?_eq_none (Nat.le_refl _)] at a
  rw [List.getElem?_eq_none (Nat.le_refl _)] at b
  have h1 : (buysOf fs.book).length ≤ fs.lots.length := by
    refine Nat.le_of_not_lt fun h => ?_
    rw [List.getElem?_eq_getElem h] at a
    cases a
  have h2 : fs.lots.length ≤ (buysOf fs.book).length := by
    refine Nat.le_of_not_lt fun h => ?_
    rw [List.getElem?_eq_getElem h] at b
    cases b
  omega
theorem stripLot_left : ∀ (xs : List (Nat × Int)) (l : List Lt) (h : Int) (j : Nat), (xs.foldl stripLot (l, h)).1[j]? = (l[j]?).map fun x => { x with left := x.left + (xs.map fun e => if e.1 = j then e.2 else 0).sum }
  | [], l, h, j => by
    cases e : l[j]? with
    | none => exact e
    | some x =>
      show l[j]? = some { x with left := x.left + 0 }
      rw [Int.add_zero]
      exact e
  | x :: xs, l, h, j => by
    rw [List.foldl_cons]
    cases hy : l[x.1]? with
    | none =>
      have e0 : stripLot (l, h) x = (l, h) := by unfold stripLot; dsimp only; rw [hy]
      rw [e0, stripLot_left xs l h j]
      by_cases e : x.1 = j
      · subst e
        rw [hy]
        rfl
      · simp only [List.map_cons, List.sum_cons, if_neg e, Int.zero_add]
    | some y =>
      have e0 : stripLot (l, h) x = (l.set x.1 { y with left := y.left + x.2 }, h + x.2 * y.price) := by unfold stripLot; dsimp only; rw [hy]
      rw [e0, stripLot_left xs _ _ j]
      by_cases e : x.1 = j
      · subst e
        rw [List.getElem?_set_self (List.getElem?_eq_some_iff.mp hy).1, hy]
        simp only [Option.map_some, List.map_cons, List.sum_cons]
        rw [if_pos trivial, Int.add_assoc]
      · rw [List.getElem?_set_ne e]
        simp only [List.map_cons, List.sum_cons, if_neg e, Int.zero_add]
theorem stripPc_own (j : Nat) : ∀ (ks : List Nat) (l : List Pc) (h : Int), ((ks.foldl stripPc (l, h)).1.map fun p => ownP p j) = l.map fun p => ownP p j
  | [], _, _ => rfl
  | k :: ks, l, h => by
    rw [List.foldl_cons]
    cases hq : l[k]? with
    | none =>
      have e0 : stripPc (l, h) k = (l, h) := by unfold stripPc; dsimp only; rw [hq]
      rw [e0]
      exact stripPc_own j ks l h
    | some q =>
      have e0 : stripPc (l, h) k = (l.set k { q with state := "made", above := none }, h + q.cost) := by unfold stripPc; dsimp only; rw [hq]
      rw [e0, stripPc_own j ks]
      exact map_set_same (f := fun p => ownP p j) hq rfl
theorem strip_cons {fs : Fl} {k : Nat} {p : Pc} (hp : fs.pcs[k]? = some p) : (fs.strip k p).cons = fs.cons := funext fun j => by
  unfold Fl.strip Fl.cons Fl.heldAll
  dsimp only
  rw [stripLot_left]
  have e0 : (((pcsOf p.holds).foldl stripPc (fs.pcs, ((lotsOf p.holds).foldl stripLot (fs.lots, 0)).2)).1.map fun p => ownP p j)[k]? = some (ownP p j) := by
    rw [stripPc_own, List.getElem?_map, hp]
    rfl
  rw [List.getElem?_map] at e0
  obtain ⟨pk, h1, h2⟩ := Option.map_eq_some_iff.mp e0
  rw [sum_set (fun p => ownP p j) h1, stripPc_own]
  have h3 : ownP pk j = ownP p j := h2
  rw [h3]
  cases hx : fs.lots[j]? with
  | none => rfl
  | some x =>
    show some (x.part, (x.left + ownP p j) + ((fs.pcs.map fun p => ownP p j).sum - ownP p j + 0)) = some (x.part, x.left + (fs.pcs.map fun p => ownP p j).sum)
    congr 2
    omega
theorem modify_own (j k : Nat) (f : Pc → Pc) (hf : ∀ p, ownP (f p) j = ownP p j) (l : List Pc) : ((l.modify k f).map fun p => ownP p j) = l.map fun p => ownP p j := by
  cases h : l[k]? with
  | none =>
    have hk : l.length ≤ k := List.getElem?_eq_none_iff.mp h
    refine List.ext_getElem? fun i => ?_
    rw [List.getElem?_map, List.getElem?_map, List.getElem?_modify]
    by_cases e : k = i
    · subst e
      rw [h]
      rfl
    · cases l[i]? with
      | none => rfl
      | some v =>
        show some (ownP (if k = i then f v else v) j) = _
        rw [if_neg e]
        rfl
  | some x =>
    rw [modify_at h]
    exact map_set_same (f := fun p => ownP p j) h (hf x)
theorem begin_cons (fs : Fl) (z : Str) (b : Bool) (hs : List Hold) : (fs.begin_ z b hs).cons = fs.cons := by
  have e1 : ({ fs with pcs := fs.pcs ++ [newPc z] } : Fl).cons = fs.cons := funext fun j => by
    unfold Fl.cons Fl.heldAll
    dsimp only
    rw [List.map_append, List.sum_append]
    have : ([newPc z].map fun p => ownP p j).sum = 0 := rfl
    rw [this, Int.add_zero]
  refine Eq.trans (b := (({ fs with pcs := fs.pcs ++ [newPc z] } : Fl).giveAll fs.pcs.length hs).cons) (cons_same rfl fun j => ?_) ((giveAll_cons fs.pcs.length hs _).trans e1)
  unfold Fl.begin_
  dsimp only
  split
  · exact modify_own j _ _ (by intro _; rfl) _
  · rfl
theorem put_cons {fs fs' : Fl} {k : Nat} {p p' : Pc} (hp : fs.pcs[k]? = some p) (hl : fs'.lots = fs.lots) (hc : fs'.pcs = fs.pcs.set k p') (e : p'.holds = p.holds) : fs'.cons = fs.cons :=
  cons_same hl fun j => by
    rw [hc]
    exact map_set_same (f := fun p => ownP p j) hp (by unfold ownP; rw [e])
theorem swap_cons {fs : Fl} {k o n : Nat} {p q r : Pc} (hp : fs.pcs[k]? = some p) (hq : fs.pcs[o]? = some q) (hr : fs.pcs[n]? = some r) : (fs.swap k o n p q r).cons = fs.cons := by
  refine cons_same rfl fun j => ?_
  unfold Fl.swap
  dsimp only
  rw [List.map_set, List.map_set, List.map_set]
  have e1 : ownP { p with holds := replPc o n p.holds, cost := p.cost + (r.cost - q.cost), state := "made" } j = ownP p j := by unfold ownP; dsimp only; rw [lotsOf_repl]
  rw [e1, set_same (l := fs.pcs.map fun p => ownP p j) (k := k) (by rw [List.getElem?_map, hp]; rfl)]
  rw [set_same (l := fs.pcs.map fun p => ownP p j) (k := o) (v := ownP { q with state := "bad", above := none } j) (by rw [List.getElem?_map, hq]; rfl)]
  exact set_same (by rw [List.getElem?_map, hr]; rfl)
theorem LotC.new (rs : List PRow) (rates : List Int) : LotC (Fl.new rs rates) := fun j => rfl
theorem LotC.mDone {fs : Fl} (I : FlI fs) (C : LotC fs) (d : Deed) : LotC (fs.mDone d).2 := by
  by_cases h : d.isPc = true
  · rw [mDone_pc h]
    unfold Fl.onPc
    cases e : fs.pcAt d.num with
    | none => exact C
    | some p =>
      dsimp only
      have hp := (pcAt_some e).2
      split
      · cases d with
        | buy z m pr => exact C
        | begin_ z => exact C
        | work k => exact C.same (put_cons hp rfl rfl (by exact rfl)) (buys_no rfl)
        | test k g => exact C.same (put_cons hp rfl rfl (by exact rfl)) (buys_no rfl)
        | rework k a =>
          show LotC (if _ then _ else _ : Ans × Fl).2
          split
          · exact C.same (put_cons hp rfl rfl (by exact rfl)) (buys_no rfl)
          · exact C
        | swap k o n =>
          show LotC (fs.mSwap _ p o n).2
          unfold Fl.mSwap
          split
          · cases er : fs.pcAt n with
            | none => exact C
            | some r =>
              dsimp only
              split
              · cases eq : fs.pcs[o.toNat]? with
                | none => exact C
                | some q =>
                  dsimp only
                  split
                  · exact C.same (swap_cons hp eq (pcAt_some er).2) (buys_no rfl)
                  · exact C
              · exact C
          · exact C
        | scrap k => exact C.same (put_cons hp rfl rfl (by exact rfl)) (buys_no rfl)
        | strip k => exact C.same (strip_cons hp) (buys_no rfl)
        | sell k c =>
          show LotC (if _ then _ else _ : Ans × Fl).2
          split
          · exact C.same (put_cons hp rfl rfl (by exact rfl)) (buys_no rfl)
          · exact C
        | back k => exact C.same (put_cons hp rfl rfl (by exact rfl)) (buys_no rfl)
      · exact C
  · cases d with
    | buy z m pr =>
      show LotC (fs.mBuy z m pr).2
      unfold Fl.mBuy
      split
      · split
        · have hl := C.len
          intro j
          unfold Fl.buy
          show (fs.lots ++ [⟨z, m, pr⟩])[j]?.map _ = ((buysOf (fs.book ++ [.buy z m pr]))[j]?).map _
          rw [buys_snoc]
          show _ = ((buysOf fs.book ++ [(z, m, pr)])[j]?).map _
          by_cases h1 : j < fs.lots.length
          · rw [List.getElem?_append_left h1, List.getElem?_append_left (by omega)]
            exact C j
          · by_cases h2 : j = fs.lots.length
            · subst h2
              rw [List.getElem?_append_right (Nat.le_refl _), ← hl, List.getElem?_append_right (Nat.le_refl _)]
              rw [Nat.sub_self]
              show some (z, m + fs.heldAll (buysOf fs.book).length) = some (z, m)
              have : fs.heldAll (buysOf fs.book).length = 0 := by
                unfold Fl.heldAll
                refine sum_zero fun p hp => ?_
                obtain ⟨i, hi⟩ := List.mem_iff_getElem?.mp hp
                have := I.ownL_out i (j := (buysOf fs.book).length) (by omega)
                rw [ownL_at hi] at this
                exact this
              rw [this, Int.add_zero]
            · rw [List.getElem?_eq_none (by rw [List.length_append]; simp only [List.length_singleton]; omega), List.getElem?_eq_none (by rw [List.length_append]; simp only [List.length_singleton]; omega)]
              rfl
        · exact C
      · exact C
    | begin_ z =>
      show LotC (fs.mBegin z).2
      unfold Fl.mBegin
      cases PM.rowOf fs.rs z with
      | none => exact C
      | some r =>
        dsimp only
        split
        · exact C
        · cases fs.lacking r.needs with
          | some y => exact C
          | none =>
            refine C.same (begin_cons _ _ _ _) ?_
            unfold Fl.begin_
            dsimp only
            rw [(giveAll_frame _ _ _).2.2.1]
            exact buys_no rfl
    | _ => exact absurd rfl h
/-! those that are in none -/
def Fl.tops (fs : Fl) : List Nat := (List.range fs.pcs.length).filter fun k => (fs.up k).isNone
theorem Bel.no {fs : Fl} {x k : Nat} (h : fs.Bel x k) (hu : fs.up x = none) : False := by
  cases h with
  | one h => rw [hu] at h; cases h
  | step h _ => rw [hu] at h; cases h
end PM

namespace WK
open PySem PySem.Spec PyProof.Rows L2 PM
abbrev intsN (l : List Nat) : List V := l.map fun (i : Nat) => V.int (i : Int)
abbrev encIs (l : List Nat) : List PyData := l.map fun (i : Nat) => PyData.int (i : Int)
abbrev encLT (l : List (Nat × Int)) : List PyData := l.map fun e => PyData.tuple [.int (e.1 : Int), .int e.2]
section
variable {P : Program} {w : World} {K : PySem.W.Frag} {H B : Hp} {Q : VK} {F : Ent} {L : Led} {a b : Addr}
end
section
variable {X : Cx}
def rCatQ (K : PySem.W.Frag) : R2 := fun x y H Q => ∃ (a b : Addr) (xs zs : List V), x = .ref a ∧ y = .ref b ∧ SqL K H a xs ∧ SqL K H b zs ∧ xs.length + zs.length ≤ sizeLine ∧ ∀ p, H p = none → Q (.ref p) (upd H p (.lst (xs ++ zs)))
theorem op_catQ : OpR X (binaryOp .Add) (rCatQ X.K) := by
  intro pins s σ H x y v u Q I rx ry ⟨a, b, xs, zs, ex, ey, h1, h2, hz, q⟩
  subst ex
  subst ey
  cases rx
  cases ry
  obtain ⟨it1, r1, p1, _⟩ := I.list h1
  obtain ⟨it2, r2, p2, _⟩ := I.list h2
  have l1 := r1.length
  have l2 := r2.length
  obtain ⟨⟨k1, dd1, da1, sl1⟩, g1, c1, n1, e1⟩ := id p1.isList
  obtain ⟨⟨k2, dd2, da2, sl2⟩, g2, c2, n2, e2⟩ := id p2.isList
  simp only at c1 e1 c2 e2
  subst c1
  subst e1
  subst c2
  subst e2
  refine PySem.concat_meets ⟨_, g1, rfl⟩ ⟨_, g2, rfl⟩ PySem.noFill_list_add PySem.seq_list_add PySem.F.slot_list_add PySem.F.entry_list_add (PySem.F.args_list_add_2 _ _) (PyProof.Rows.list_addW a b it1.toArray it2.toArray n1 n2 dd1 dd2 sl1 sl2 (by simp only [List.size_toArray]; omega)) ⟨g1, g2, ?_⟩
  have ea : it1.toArray ++ it2.toArray = (it1 ++ it2).toArray := by simp
  rw [ea]
  exact ⟨.ref _, _, I.lnew (t' := s.toks) (r1.append r2) (by rw [List.length_append]; omega), rfl, q _ I.fresh⟩
end
section
variable {P : Program} {w : World} {K : PySem.W.Frag} {H B : Hp} {Q : VK} {F : Ent} {L : Led} {a b : Addr}
/-- a list joined to another, wherever they stand -/
theorem v_catQ {xs zs : List V} (S : Ok F B L H) (h1 : SqL K H a xs) (h2 : SqL K H b zs) (hz : xs.length + zs.length ≤ sizeLine) (k : ∀ r H', Ok F B ((r, .lst (xs ++ zs)) :: L) H' → Q (.ref r) H') : OpU P w K (binaryOp .Add) (.ref a) (.ref b) H Q :=
  .ofK (r := rCatQ) (fun _ _ => op_catQ) ⟨a, b, xs, zs, rfl, rfl, h1, h2, hz, fun r hr => k r _ (S.newL hr)⟩
end
end WK
namespace PM
open PySem L2 WK
end PM

/-! lambdas as values: made, kept, called by a def that got one -/
namespace WK
open PySem PySem.Spec PyProof.Rows L2
abbrev lamFn (q : Str) (params : Arguments) (body : Expr) (scope : Scope) (cl : List (Str × Addr)) (pm dv cdv ct : Value) : FuncData :=
  { name := "<lambda>", qualname := q, params, body := .expr body, scope, globals := mainGlobals, closure := cl, defaults := dv, kwdefaults := .none, doc := .none, pyModule := pm, annotations := none, code := cdv, closureTuple := ct, builtins := builtinsNs }
section
variable {M : Model} {A : Around} {E : Value → Shared → Prop} {s : Shared} {Q : Value → Shared → Prop} {q : Str} {params : Arguments} {body : Expr} {scope : Scope} {env : Env} {c P : Addr} {ps : Array Value} {pos : Pos} {fl : Nat} {mg : Str → Option Value} {clos : List (Str × Addr)} {dv : Value}
theorem mkLam_new (hcl : closureFor scope env = pure clos) (hge : env.globals = mainGlobals) (hg : s.heap.Ns mainGlobals mg) (hcode : env.code = .ref c) (C : PySem.W.CodeHd s.heap c P) (hP : s.heap.get? P = some { cls := .none, data := .fields ps }) (ht : TriplesOk ps.toList) (hnf : codeAmong pos ps.toList = none) (hgP : mainGlobals ≠ P) (hb : s.heap.BuiltinsAt mg P)
    (k : ∀ c' ctv h' tk, Heap.ExtBut P s.heap h' → s.heap.objs.size ≤ c' → c' < h'.objs.size → h'.CodeRec (.ref c') q → h'.get? P = some { cls := .none, data := .fields (ps ++ #[rawInt pos.line, rawInt pos.col, .ref c']) } →
      Q (.ref h'.objs.size) { s with heap := h'.push { cls := .type "function", data := .func (lamFn q params body scope clos ((mg "__name__").getD .none) dv (.ref c') ctv) }, toks := tk }) :
    wpAny M A (makeTail "<lambda>" q params (.expr body) scope env dv .none none pos fl) Q E s := by
  obtain ⟨bm, ob, e1, e2, _, e3, e4, e5, e6, e7⟩ := hb
  unfold makeTail
  rw [hcl, hge]
  refine wpAny_bind (wpAny_pure ?_)
  cases hE : clos.isEmpty
  · simp only [Bool.false_eq_true, if_false]
    refine wpAny_bind (wpAny_newTextTuple ?_)
    have kp : ∀ b o, s.heap.get? b = some o → (s.heap.push { cls := .type "tuple", data := .seq ((clos.mergeSort fun a b => a.1.cps.toList ≤ b.1.cps.toList).map (Value.ref ·.2)).toArray }).get? b = some o := fun _ _ e => Heap.get?_push_of_some _ e
    have sz : s.heap.objs.size ≤ (s.heap.push { cls := .type "tuple", data := .seq ((clos.mergeSort fun a b => a.1.cps.toList ≤ b.1.cps.toList).map (Value.ref ·.2)).toArray }).objs.size := by rw [Heap.size_push]; omega
    have C1 := C.keeps kp
    have P1 := kp _ _ hP
    refine wpAny_bind (wpAny_functionCodeX hcode (C1.code P1 ht) (C1.tab P1) hnf fun c' h' tk hx ge lt _ rec tb _ => ?_)
    have hg' := (hg.keeps kp).extBut hx hgP
    refine wpAny_bind (wpAny_builtinsFor hg' e1 e2 (hx _ _ e3 (kp _ _ e4)) e5 e6 e7 ?_)
    refine wpAny_bind (wpAny_nsGet hg' ?_)
    exact wpAny_bind (wpAny_pure (wpAny_newObj_type (k c' _ h' tk (fun b o nb e => hx b o nb (kp _ _ e)) (Nat.le_trans sz ge) lt rec tb.2) (by size_fits)))
  · simp only [if_true]
    refine wpAny_bind (wpAny_pure ?_)
    have kp : ∀ b o, s.heap.get? b = some o → s.heap.get? b = some o := fun _ _ e => e
    have sz : s.heap.objs.size ≤ s.heap.objs.size := Nat.le_refl _
    have C1 := C.keeps kp
    have P1 := kp _ _ hP
    refine wpAny_bind (wpAny_functionCodeX hcode (C1.code P1 ht) (C1.tab P1) hnf fun c' h' tk hx ge lt _ rec tb _ => ?_)
    have hg' := (hg.keeps kp).extBut hx hgP
    refine wpAny_bind (wpAny_builtinsFor hg' e1 e2 (hx _ _ e3 (kp _ _ e4)) e5 e6 e7 ?_)
    refine wpAny_bind (wpAny_nsGet hg' ?_)
    exact wpAny_bind (wpAny_pure (wpAny_newObj_type (k c' _ h' tk (fun b o nb e => hx b o nb (kp _ _ e)) (Nat.le_trans sz ge) lt rec tb.2) (by size_fits)))
theorem mkLam_old {cv : Value} (hcl : closureFor scope env = pure clos) (hge : env.globals = mainGlobals) (hg : s.heap.Ns mainGlobals mg) (hcode : env.code = .ref c) (C : PySem.W.CodeHd s.heap c P) (hP : s.heap.get? P = some { cls := .none, data := .fields ps }) (ht : TriplesOk ps.toList) (hf : codeAmong pos ps.toList = some cv) (hb : s.heap.BuiltinsAt mg P)
    (k : ∀ (ctv : Value) (h' : Heap) (tk : Tok), (∀ b o, s.heap.get? b = some o → h'.get? b = some o) → s.heap.objs.size ≤ h'.objs.size →
      Q (.ref h'.objs.size) { s with heap := h'.push { cls := .type "function", data := .func (lamFn q params body scope clos ((mg "__name__").getD .none) dv cv ctv) }, toks := tk }) :
    wpAny M A (makeTail "<lambda>" q params (.expr body) scope env dv .none none pos fl) Q E s := by
  obtain ⟨bm, ob, e1, e2, _, e3, e4, e5, e6, e7⟩ := hb
  unfold makeTail
  rw [hcl, hge]
  refine wpAny_bind (wpAny_pure ?_)
  cases hE : clos.isEmpty
  · simp only [Bool.false_eq_true, if_false]
    refine wpAny_bind (wpAny_newTextTuple ?_)
    have kp : ∀ b o, s.heap.get? b = some o → (s.heap.push { cls := .type "tuple", data := .seq ((clos.mergeSort fun a b => a.1.cps.toList ≤ b.1.cps.toList).map (Value.ref ·.2)).toArray }).get? b = some o := fun _ _ e => Heap.get?_push_of_some _ e
    have sz : s.heap.objs.size ≤ (s.heap.push { cls := .type "tuple", data := .seq ((clos.mergeSort fun a b => a.1.cps.toList ≤ b.1.cps.toList).map (Value.ref ·.2)).toArray }).objs.size := by rw [Heap.size_push]; omega
    have C1 := C.keeps kp
    have P1 := kp _ _ hP
    refine wpAny_bind (wpAny_functionCode_hit hcode (C1.code P1 ht) hf ?_)
    have hg' := hg.keeps kp
    refine wpAny_bind (wpAny_builtinsFor hg' e1 e2 (kp _ _ e4) e5 e6 e7 ?_)
    refine wpAny_bind (wpAny_nsGet hg' ?_)
    exact wpAny_bind (wpAny_pure (wpAny_newObj_type (k _ _ s.toks kp sz) (by size_fits)))
  · simp only [if_true]
    refine wpAny_bind (wpAny_pure ?_)
    have kp : ∀ b o, s.heap.get? b = some o → s.heap.get? b = some o := fun _ _ e => e
    have sz : s.heap.objs.size ≤ s.heap.objs.size := Nat.le_refl _
    have C1 := C.keeps kp
    have P1 := kp _ _ hP
    refine wpAny_bind (wpAny_functionCode_hit hcode (C1.code P1 ht) hf ?_)
    have hg' := hg.keeps kp
    refine wpAny_bind (wpAny_builtinsFor hg' e1 e2 (kp _ _ e4) e5 e6 e7 ?_)
    refine wpAny_bind (wpAny_nsGet hg' ?_)
    exact wpAny_bind (wpAny_pure (wpAny_newObj_type (k _ _ s.toks kp sz) (by size_fits)))
end
/-! ### what is known of one -/
/-- a default, or none -/
def DfOf (params : Arguments) (env : Env) : Option Int → Prop
  | none => defaultsOf params env = ([], [])
  | some n => ∃ j p, defaultsOf params env = ([eval (.Constant (.int n) j p) env], [])
def DfK (H : Hp) (dv : Value) : Option Int → Prop
  | none => dv = .none
  | some n => ∃ T, dv = .ref T ∧ H T = some (.tup [.int n])
theorem DfK.up {H H' : Hp} {dv : Value} {d : Option Int} (h : DfK H dv d) (e : Ex H H') : DfK H' dv d := by
  cases d with
  | none => exact h
  | some n => obtain ⟨T, h1, h2⟩ := h; exact ⟨T, h1, e _ _ h2⟩
/-- the lambda's names: its parameter is none of the def's -/
structure LamS2 (N : List Str) (sc scope : Scope) : Prop where
  kind : scope.kind = .function
  co : scope.isCoroutine = false
  gen : scope.isGenerator = false
  own : ∀ y ∈ scope.names, y.2 ≠ .cell ∧ (y.2 = .local → y.1 ∉ N)
  free : ∀ y ∈ scope.names, y.2 = .free → sc.names.lookup y.1 = some .cell ∨ sc.names.lookup y.1 = some .free
def lamSB2 (N : List Str) (sc scope : Scope) : Bool :=
  decide (scope.kind = .function) && !scope.isCoroutine && !scope.isGenerator && scope.names.all fun y => !decide (y.2 = .cell) && (!decide (y.2 = .local) || decide (y.1 ∉ N)) && (!decide (y.2 = .free) || decide (sc.names.lookup y.1 = some .cell) || decide (sc.names.lookup y.1 = some .free))
theorem lamS2_by {N : List Str} {sc scope : Scope} (h : lamSB2 N sc scope = true) : LamS2 N sc scope := by
  unfold lamSB2 at h
  simp only [Bool.and_eq_true, Bool.or_eq_true, Bool.not_eq_true', decide_eq_true_eq, decide_eq_false_iff_not, List.all_eq_true] at h
  obtain ⟨⟨⟨h1, h2⟩, h3⟩, h4⟩ := h
  refine ⟨h1, h2, h3, fun y hy => ⟨(h4 y hy).1.1, fun e => ?_⟩, fun y hy e => ?_⟩
  · rcases (h4 y hy).1.2 with z | z
    · exact absurd e z
    · exact z
  · rcases (h4 y hy).2 with (z | z) | z
    · exact absurd e z
    · exact .inl z
    · exact .inr z
/-- what it binds when nothing is handed on -/
def LamB (params : Arguments) (body : Expr) (scope : Scope) : Option Int → Prop
  | none => ∀ (q : Str) (cl : List (Str × Addr)) (pm cdv ct : Value), bindArgs (lamFn q params body scope cl pm .none cdv ct) ⟨[], []⟩ = pure []
  | some _ => ∃ a : Str, scope.names.lookup a = some .local ∧ ∀ (q : Str) (cl : List (Str × Addr)) (pm cdv ct : Value) (T : Addr), ∃ kf, bindArgs (lamFn q params body scope cl pm (.ref T) cdv ct) ⟨[], []⟩ = seqItems? (.ref T) >>= kf ∧ ∀ v, kf (some #[v]) = pure [(a, v)]
/-- its text reads so -/
structure LamM (X : Cx) (k : Nat) (params : Arguments) (body : Expr) (scope : Scope) (d : Option Int) (t : XK → TE) : Prop where
  L : LamS2 X.N X.env.scope scope
  b : LamB params body scope d
  pe : ∀ (A : Around) (outer : List Env) (s : Shared) (H : Hp) (E : XK) (f c' : Addr), Room k (A.deeper (LamX.lamEnv X scope s.heap.objs.size f c')) → PE (LamX.lamCx X A outer s H E scope f c') body (t E)
def LamO (X : Cx) (q : Str) (k : Nat) (t : XK → TE) (c' : Addr) (d : Option Int) (dv : Value) (f : Addr) : HO := .ext fun h => ∃ (params : Arguments) (body : Expr) (scope : Scope) (pm ctv : Value),
  h.get? f = some { cls := .type "function", data := .func (lamFn q params body scope (cloFrom X.env.cells scope.names []) pm dv (.ref c') ctv) } ∧ LamM X k params body scope d t
/-- the function at f is a lambda that reads so -/
def LamV (X : Cx) (q : Str) (k : Nat) (t : XK → TE) (H : Hp) (f : Addr) : Prop := ∃ (c' : Addr) (d : Option Int) (dv : Value), H f = some (LamO X q k t c' d dv f) ∧ H c' = some (LamX.CodeO c' q) ∧ DfK H dv d
theorem LamV.up {X : Cx} {q : Str} {k : Nat} {t : XK → TE} {H H' : Hp} {f : Addr} (h : LamV X q k t H f) (e : Ex H H') : LamV X q k t H' f := by
  obtain ⟨c', d, dv, h1, h2, h3⟩ := h
  exact ⟨c', d, dv, e _ _ h1, e _ _ h2, h3.up e⟩
theorem LamS2.has {X : Cx} {scope : Scope} (L : LamS2 X.N X.env.scope scope) (ok : X.Ok) : ∀ y ∈ scope.names, y.2 = .free → ∃ c, X.env.cells.lookup y.1 = some c := fun y hy e => (L.free y hy e).elim (fun k => ok.has _ (.inl k)) fun k => ok.has _ (.inr k)
section
variable {X : Cx} {pins : List (Addr × Obj)} {σ : L2.St} {H : Hp} {s : Shared}
/-- the default's tuple, or nothing -/
def DfN (H : Hp) (dv : Value) (H0 : Hp) : Option Int → Prop
  | none => dv = .none ∧ H0 = H
  | some n => ∃ T, dv = .ref T ∧ H T = none ∧ H0 = upd H T (.tup [.int n])
theorem DfN.k {H H0 : Hp} {dv : Value} {d : Option Int} (h : DfN H dv H0 d) : DfK H0 dv d := by
  cases d with
  | none => exact h.1
  | some n => obtain ⟨T, h1, h2, rfl⟩ := h; exact ⟨T, h1, upd_same⟩
theorem DfN.ex {H H0 : Hp} {dv : Value} {d : Option Int} (h : DfN H dv H0 d) : Ex H H0 := by
  cases d with
  | none => rw [h.2]; exact Ex.refl _
  | some n => obtain ⟨T, h1, h2, rfl⟩ := h; exact Ex.new h2
/-- what making a lambda leaves of the table; its code object -/
def NewTabC (H : Hp) (P : Addr) (q : Str) (ps : Array Value) (c' : Addr) (H1 : Hp) : Prop := (H1 = H ∧ ∃ pos : Pos, codeAmong pos ps.toList = some (.ref c')) ∨ ∃ more : Array Value, H c' = none ∧ H1 = upd (upd H P (.tbl (ps ++ more))) c' (LamX.CodeO c' q) ∧ TriplesOk (ps ++ more).toList ∧ ∀ (pos : Pos) (cv : Value), codeAmong pos (ps ++ more).toList = some cv → codeAmong pos ps.toList = some cv ∨ cv = .ref c'
theorem Ok.newTabC {F : Ent} {B H H1 : Hp} {L : Led} {P c' : Addr} {q : Str} {ps : Array Value} (S : Ok F B ((P, .tbl ps) :: L) H) (T : TabL B q ps) (n : NewTabC H P q ps c' H1) : ∃ B' ps', Ex B B' ∧ TabL B' q ps' ∧ B' c' = some (LamX.CodeO c' q) ∧ Ok F B' ((P, .tbl ps') :: L) H1 := by
  rcases n with ⟨rfl, pos, hp⟩ | ⟨more, hc, rfl, h1, h2⟩
  · obtain ⟨c, e1, e2⟩ := T.2 pos _ hp
    cases e1
    exact ⟨B, ps, Ex.refl _, T, e2, S⟩
  · have hP : H P = some (.tbl ps) := (S.own _ (.head _)).1
    have ncP : c' ≠ P := fun z => by rw [z, hP] at hc; cases hc
    have S1 := S.mut (o' := .tbl (ps ++ more))
    have hc1 : upd H P (.tbl (ps ++ more)) c' = none := by rw [upd_ne ncP]; exact hc
    refine ⟨upd B c' (LamX.CodeO c' q), ps ++ more, S1.exB hc1, ⟨h1, fun pos cv h => ?_⟩, upd_same, S1.newB hc1⟩
    rcases h2 pos cv h with z | z
    · exact (T.up (S1.exB hc1)).2 pos cv z
    · exact ⟨c', z, upd_same⟩
/-- its function, the default laid -/
theorem lam_tailV {c P : Addr} {q : Str} {k : Nat} {ps : Array Value} {params : Arguments} {body : Expr} {scope : Scope} {pos : Pos} {dv : Value} {d : Option Int} {t : XK → TE} {E : Value → Shared → Prop} {Q : Value → Shared → Prop} (I : Inv X pins σ H s) (TB : LamX.TabB X.base X.mg c P) (hcode : X.env.code = .ref c)
    (hP : H P = some (.tbl ps)) (ht : TriplesOk ps.toList) (ha : ∀ (pos : Pos) (cv : Value), codeAmong pos ps.toList = some cv → ∃ c, cv = .ref c ∧ H c = some (LamX.CodeO c q)) (m : LamM X k params body scope d t)
    (kk : ∀ (f c' : Addr) (H1 : Hp) (s' : Shared), NewTabC H P q ps c' H1 → H1 f = none → Inv X pins σ (upd H1 f (LamO X q k t c' d dv f)) s' → Q (.ref f) s') :
    wpAny (model X.prog X.w) X.A (makeTail "<lambda>" q params (.expr body) scope X.env dv .none none pos pos.line) Q E s := by
  have hPm : s.heap.get? P = some { cls := .none, data := .fields ps } := I.hok P _ hP
  have bP : s.heap.BuiltinsAt X.mg P := TB.bm.keeps I.bk
  have obj : ∀ {h' : Heap} {f c' : Addr} {pm ctv : Value} {H1 : Hp}, h'.get? f = some { cls := .type "function", data := .func (lamFn q params body scope (cloFrom X.env.cells scope.names []) pm dv (.ref c') ctv) } → ObjOk X.prog X.w H1 h' f (LamO X q k t c' d dv f) :=
    fun {h' f c' pm ctv H1} e => ⟨⟨params, body, scope, pm, ctv, e, m⟩, ⟨_, e⟩, fun h1 h2 ⟨a1, a2, a3, a4, a5, e1, e2⟩ st => ⟨a1, a2, a3, a4, a5, st _ e1, e2⟩⟩
  cases hc : codeAmong pos ps.toList with
  | some cv =>
    obtain ⟨c', rfl, hco⟩ := ha pos cv hc
    refine mkLam_old (mg := X.mg) (closure_ok (m.L.has I.ok)) I.ok.glob (I.mod.glob.keeps I.bk) hcode (TB.code.keeps I.bk) hPm ht hc bP fun ctv h' tk hx hsz => ?_
    have I1 : Inv X pins σ H { s with heap := h', toks := tk } := I.kept (t' := tk) hx
    have nf := I.hok.fresh hsz
    exact kk h'.objs.size c' H _ (.inl ⟨rfl, pos, hc⟩) nf (I1.laid (t' := tk) (fun b o e => Heap.get?_push_of_some _ e) (Nat.le_refl _) (obj (Heap.get?_push_size _ rfl)))
  | none =>
    refine mkLam_new (mg := X.mg) (closure_ok (m.L.has I.ok)) I.ok.glob (I.mod.glob.keeps I.bk) hcode (TB.code.keeps I.bk) hPm ht hc TB.gP bP fun c' ctv h' tk hx hge hlt hrec htb => ?_
    obtain ⟨c2, oc, vs, tt, e2, hoc, hd, hv⟩ := hrec
    cases e2
    have nC : H c' = none := I.hok.fresh hge
    have I1 := LamX.inv_table (t' := tk) (more := #[rawInt pos.line, rawInt pos.col, .ref c']) (h' := h') I hP hx htb hge ⟨oc, vs, tt, hoc, hd, hv⟩
    have eL : (ps ++ #[rawInt pos.line, rawInt pos.col, .ref c']).toList = ps.toList ++ [rawInt pos.line, rawInt pos.col, .ref c'] := by simp
    have nf := I1.hok.fresh (Nat.le_refl h'.objs.size)
    refine kk h'.objs.size c' _ _ (.inr ⟨_, nC, rfl, by rw [eL]; exact PySem.TriplesOk_snoc _ _ _ _ ht, fun p' cv hcv => ?_⟩) nf (I1.laid (t' := tk) (fun b o e => Heap.get?_push_of_some _ e) (Nat.le_refl _) (obj (Heap.get?_push_size _ rfl)))
    rw [eL] at hcv
    exact LamX.among_app _ ht hcv
/-- a lambda's expression -/
theorem lam_newV {c P : Addr} {q : Str} {k : Nat} {ps : Array Value} {params : Arguments} {body : Expr} {scope : Scope} {pos : Pos} {d : Option Int} {t : XK → TE} {Q : Value → Shared → Prop} (I : Inv X pins σ H s) (TB : LamX.TabB X.base X.mg c P) (hcode : X.env.code = .ref c) (hq : X.env.qual ++ "<lambda>" = q)
    (hP : H P = some (.tbl ps)) (ht : TriplesOk ps.toList) (ha : ∀ (pos : Pos) (cv : Value), codeAmong pos ps.toList = some cv → ∃ c, cv = .ref c ∧ H c = some (LamX.CodeO c q)) (hdef : DfOf params X.env d) (m : LamM X k params body scope d t)
    (kk : ∀ (f c' : Addr) (dv : Value) (H0 H1 : Hp) (s' : Shared), DfN H dv H0 d → NewTabC H0 P q ps c' H1 → H1 f = none → Inv X pins σ (upd H1 f (LamO X q k t c' d dv f)) s' → Q (.ref f) s') :
    wpAny (model X.prog X.w) X.A (eval (.Lambda params body scope pos) X.env) Q X.xe s := by
  subst hq
  rw [arm_eval_Lambda]
  cases d with
  | none =>
    rw [show defaultsOf params X.env = ([], []) from hdef]
    refine wpAny_bind (wpAny_pure (wpAny_bind (wpAny_holding (wpAny_pure ?_))))
    rw [makeFunction_eq]
    simp only [List.zip_nil_right, List.filterMap_nil, List.isEmpty_nil, if_true, pure_bind]
    exact lam_tailV I TB hcode hP ht ha m fun f c' H1 s' n1 n2 I' => kk f c' .none H H1 s' ⟨rfl, rfl⟩ n1 n2 I'
  | some n =>
    obtain ⟨j, p, e⟩ := hdef
    rw [e]
    refine wpAny_bind ?_
    show wpAny _ _ (do let v ← eval (.Constant (.int n) j p) X.env; let r ← holding [v] (evalAll []); pure (v :: r)) _ _ s
    refine wpAny_bind (thn ((pe_int (X := X) (i := n) (j := j) (pos := p)).run pins s σ H (fun v H1 => v = .int n ∧ H1 = H) I ⟨rfl, rfl⟩) fun u s1 ⟨v, H1, I1, r1, q1⟩ => ?_)
    obtain ⟨rfl, rfl⟩ := q1
    refine wpAny_bind (wpAny_holding (wpAny_pure (wpAny_pure (wpAny_bind (wpAny_holding (wpAny_pure ?_))))))
    rw [makeFunction_eq]
    simp only [List.zip_nil_right, List.filterMap_nil, List.isEmpty_nil, List.isEmpty_cons, if_true, Bool.false_eq_true, if_false, pure_bind]
    refine wpAny_bind (wpAny_newTextTuple ?_)
    generalize hT : s1.heap.objs.size = T
    have nT : H1 T = none := I1.hok.fresh (Nat.le_of_eq hT)
    have I2 : Inv X pins σ (upd H1 T (.tup [.int n])) { s1 with heap := s1.heap.push { cls := .type "tuple", data := .seq [u].toArray } } := by
      refine I1.laid (t' := s1.toks) (fun b o e => Heap.get?_push_of_some _ e) (Nat.le_of_eq hT) ⟨by show 1 ≤ sizeLine; decide, [u], .cons r1 .nil, ?_⟩
      rw [← hT]
      exact IsTup.new s1.heap _
    have eT : Ex H1 (upd H1 T (.tup [.int n])) := Ex.new nT
    exact lam_tailV I2 TB hcode (eT _ _ hP) ht (fun pos cv h => let ⟨c, e1, e2⟩ := ha pos cv h; ⟨c, e1, eT _ _ e2⟩) m fun f c' H2 s' n1 n2 I' => kk f c' (.ref T) _ H2 s' ⟨T, rfl, nT, rfl⟩ n1 n2 I'
end
/-- lambda: body, the table of one's own -/
def tLamV (X : Cx) (P : Addr) (q : Str) (k : Nat) (t : XK → TE) : TE := fun _ H Q => ∃ ps, H P = some (.tbl ps) ∧ TriplesOk ps.toList ∧ (∀ (pos : Pos) (cv : Value), codeAmong pos ps.toList = some cv → ∃ c, cv = .ref c ∧ H c = some (LamX.CodeO c q)) ∧
  ∀ (f c' : Addr) (d : Option Int) (dv : Value) (H0 H1 : Hp), DfN H dv H0 d → NewTabC H0 P q ps c' H1 → H1 f = none → Q (.ref f) (upd H1 f (LamO X q k t c' d dv f))
theorem pe_lamV {X : Cx} {c P : Addr} {q : Str} {k : Nat} {params : Arguments} {body : Expr} {scope : Scope} {pos : Pos} {d : Option Int} {t : XK → TE} (TB : LamX.TabB X.base X.mg c P) (hcode : X.env.code = .ref c) (hq : X.env.qual ++ "<lambda>" = q) (hdef : DfOf params X.env d)
    (L : LamS2 X.N X.env.scope scope) (b : LamB params body scope d) (pe : ∀ (A : Around) (outer : List Env) (s : Shared) (H : Hp) (E : XK) (f c' : Addr), Room k (A.deeper (LamX.lamEnv X scope s.heap.objs.size f c')) → PE (LamX.lamCx X A outer s H E scope f c') body (t E)) :
    PE X (.Lambda params body scope pos) (tLamV X P q k t) := ⟨fun pins s σ H Q I h => by
  obtain ⟨ps, hP, ht, ha, kk⟩ := h
  exact lam_newV I TB hcode hq hP ht ha hdef ⟨L, b, pe⟩ fun f c' dv H0 H1 s' n1 n2 n3 I' => ⟨.ref f, _, I', rfl, kk f c' d dv H0 H1 n1 n2 n3⟩⟩
theorem lamVQ {F : Ent} {B H : Hp} {L : Led} {X : Cx} {P : Addr} {q : Str} {k : Nat} {ps : Array Value} {t : XK → TE} {σ : L2.St} {Q : VK} (S : Ok F B ((P, .tbl ps) :: L) H) (T : TabL B q ps)
    (kk : ∀ f B' ps' H', Ex B B' → TabL B' q ps' → LamV X q k t B' f → Ok F B' ((P, .tbl ps') :: L) H' → Q (.ref f) H') : tLamV X P q k t σ H Q := by
  refine ⟨ps, (S.own _ (.head _)).1, T.1, fun pos cv h => let ⟨c, e1, e2⟩ := T.2 pos cv h; ⟨c, e1, S.ex _ _ e2⟩, fun f c' d dv H0 H1 n1 n2 n3 => ?_⟩
  have key : ∃ B0, Ex B B0 ∧ DfK B0 dv d ∧ Ok F B0 ((P, .tbl ps) :: L) H0 := by
    cases d with
    | none => obtain ⟨rfl, rfl⟩ := n1; exact ⟨B, Ex.refl _, rfl, S⟩
    | some n => obtain ⟨T, rfl, n0, rfl⟩ := n1; exact ⟨_, S.exB n0, ⟨T, rfl, upd_same⟩, S.newB n0⟩
  obtain ⟨B0, e0, dk, S0⟩ := key
  obtain ⟨B1, ps', e1, T1, hc, S1⟩ := S0.newTabC (T.up e0) n2
  have e2 := S1.exB (o := LamO X q k t c' d dv f) n3
  exact kk f _ ps' _ (e0.trans (e1.trans e2)) (T1.up e2) ⟨c', d, dv, upd_same, e2 _ _ hc, dk.up (e1.trans e2)⟩ (S1.newB n3)
end WK

/-! a lambda called; a comprehension whose element leans on the def's own names -/
namespace WK
open PySem PySem.Spec PyProof.Rows L2
section
variable {X : Cx} {pins : List (Addr × Obj)} {σ : L2.St} {H HB HZ : Hp} {s sB s1 : Shared}
/-- its body is entered: the def's cells stood still since s -/
theorem lam_startV {A : Around} {outer : List Env} {E : XK} {scope : Scope} {f c' : Addr} {h₁ : Heap} {tk : Nat} {ex : List Addr} {binds : List (Str × Value)} (I : Inv X pins σ H s) (L : LamS2 X.N X.env.scope scope) (e0 : Env0 X.prog X.w X.K X.mg X.base A outer s1 HZ) (hd : A.handled = none)
    (un : Un (frs X.stack) ex H HZ s.heap s1.heap) (hex : ∀ y c, X.env.cells.lookup y = some c → c ∉ ex) (hns : h₁.Ns s1.heap.objs.size fun y => binds.reverse.lookup y) (kp : ∀ b o, s1.heap.get? b = some o → h₁.get? b = some o) :
    Inv (LamX.lamCx X A outer s1 HZ E scope f c') [] σ HZ { s1 with heap := h₁, toks := tk } := by
  have up : ∀ {y c}, (cloFrom X.env.cells scope.names []).lookup y = some c → X.env.cells.lookup y = some c := fun {y c} e => by
    rcases cloFrom_mem (PySem.mem_of_lookup e) with hm | ⟨h1, h2⟩
    · cases hm
    · obtain ⟨c1, hc⟩ := L.has I.ok _ h1 rfl
      dsimp only at hc h2
      rw [hc] at h2
      rw [hc, h2]
      rfl
  have down : ∀ {y}, scope.names.lookup y = some .free → ∃ c, (cloFrom X.env.cells scope.names []).lookup y = some c ∧ X.env.cells.lookup y = some c := fun {y} hl => by
    obtain ⟨c, hc⟩ := mem_lookup (cloFrom_has (cells := X.env.cells) (acc := []) (PySem.mem_of_lookup hl))
    exact ⟨c, hc, up hc⟩
  have stay : ∀ {y c v}, X.env.cells.lookup y = some c → s.heap.IsCell c v → h₁.IsCell c v := fun {y c v} e ⟨o, ho, hd⟩ => by
    obtain ⟨sl, q⟩ := un.any ho (I.freeC y c e) (hex y c e)
    exact ⟨_, kp _ _ q, hd⟩
  have no : ∀ {y}, scope.names.lookup y ≠ some .cell := fun {y} h => (L.own _ (PySem.mem_of_lookup h)).1 rfl
  exact {
    ok := { mod := e0.mod, kind := L.kind, glob := rfl, blt := rfl, above := Nat.le_refl _, inj := fun y z c e1 e2 => I.ok.inj y z c (up e1) (up e2),
            has := fun y hy => by
              rcases (show scope.names.lookup y = some .cell ∨ scope.names.lookup y = some .free from hy) with h | h
              · exact absurd h no
              · exact let ⟨c, h1, _⟩ := down h; ⟨c, h1⟩
            cab := fun y c z _ => Bool.noConfusion (show false = true from z), hd := fun _ => hd, frames := Around.frames_deeper e0.frames, stk := .inr ⟨rfl, rfl⟩, exf := fun b z => absurd (show b ∈ ([] : List Addr) from z) (by simp), bs := e0.bs, bsz := e0.bsz,
            noex := fun b _ _ z => absurd (show b ∈ ([] : List Addr) from z) (by simp), exfs := fun b z => absurd (show b ∈ ([] : List Addr) from z) (by simp), funs := e0.funs, frf := e0.frf }
    os := rfl
    bare := e0.bare
    base := Un.kept kp
    loc := ⟨_, hns, fun i y v e1 e2 e3 => by
      rcases (show Vis scope y from e3) with k | k | k
      · exact absurd (List.mem_of_getElem? e1) ((L.own _ (PySem.mem_of_lookup k)).2 rfl)
      · exact absurd k no
      · obtain ⟨m, _, hl⟩ := I.loc
        have hv : X.env.scope.names.lookup y = some .cell ∨ X.env.scope.names.lookup y = some .free := L.free _ (PySem.mem_of_lookup k) rfl
        obtain ⟨w', r, q⟩ := hl i y v e1 e2 (.inr hv)
        obtain ⟨c2, h2, h3⟩ := down k
        refine ⟨w', r, .inr ⟨.inr k, c2, h2, ?_⟩⟩
        rcases q with ⟨k', _⟩ | ⟨_, c3, e', z⟩
        · have k' : X.env.scope.names.lookup y = some .local := k'
          rcases hv with hv | hv <;> rw [hv] at k' <;> cases k'
        · rw [h3] at e'
          cases e'
          exact stay h3 z⟩
    cell := fun y c e => by
      obtain ⟨w', z⟩ := I.cell y c (up e)
      exact ⟨w', stay (up e) z⟩
    free := e0.hok.fresh (Nat.le_refl _)
    freeC := fun y c e => by
      obtain ⟨v, o, ho, hd⟩ := I.cell y c (up e)
      exact un.free c o ho (I.freeC y c (up e)) (hex y c (up e))
    pin := fun q hq => absurd (show q ∈ ([] : List (Addr × Obj)) ++ [] from hq) (by simp)
    hok := e0.hok.kept kp
    len := I.len }
/-- a(), in the def that got the lambda -/
theorem pe_actV {CXg : CXT} {Eg : XK} {Ng : List Str} {qg q : Str} {sg : Scope} {g f : Addr} {cdg : Value} {k i : Nat} {a : Str} {pn : List (Addr × Obj)} {xe : Value → Shared → Prop} {W : WX} {E : XK} {t : XK → TE} {ex : List Addr} {p1 p2 : Pos}
    (hq : X.env.qual ++ "<lambda>" = q) (I : Inv X pins σ H s) (un : Un (frs X.stack) ex H HB s.heap sB.heap) (hex : ∀ y c, X.env.cells.lookup y = some c → c ∉ ex)
    (tk : Takes ((cxOf CXg X.prog X.w X.K X.mg X.base Ng qg sg g cdg X.A X.stack sB HB Eg).tr pn xe) W) (hW : ∀ cls d σ' H', E cls d H' → W cls d σ' H') (hr : Room (k + 1) (X.A.deeper (envOfC qg sg sB.heap.objs.size g cdg)))
    (hN : Ng[i]? = some a) (hv : Vis sg a) (hd : (a == ("__debug__" : Str)) = false := by decide) (hcd : (a == ("__classdict__" : Str)) = false := by decide) :
    PE ((cxOf CXg X.prog X.w X.K X.mg X.base Ng qg sg g cdg X.A X.stack sB HB Eg).tr pn xe) (.Call (.Name a p1) [] [] p2)
      (fun σZ HZ Q => σZ[i]? = some (some (.ref f)) ∧ LamV X q k t HZ f ∧ t E σ HZ Q) := by
  subst hq
  refine ⟨fun pinsZ sZ σZ HZ Q IZ h => ?_⟩
  obtain ⟨hs, ⟨c', d, dv, hf, hc, hdv⟩, ht⟩ := h
  refine wpAny_Call_Name_kw (thn ((pe_var (pos := p1) (i := i) hN hv hd hcd).run pinsZ sZ σZ HZ (fun v H1 => v = .ref f ∧ H1 = HZ) IZ ⟨.ref f, hs, rfl, rfl⟩) fun u s1 ⟨v, H1, I1, r1, q1⟩ => ?_)
  obtain ⟨rfl, rfl⟩ := q1
  obtain rfl : u = Value.ref f := r1
  obtain ⟨⟨params, body, scope, pm, ctv, of1, m⟩, _, _⟩ := I1.hok f _ hf
  refine PySem.W.callWith_F0 ⟨_, _, _, _, of1⟩ ?_
  have un1 : Un (frs X.stack) [] HB H1 sB.heap s1.heap := I1.base
  have un2 : Un (frs X.stack) ex H H1 s.heap s1.heap := un.trans (un1.mono (fun _ h => h) (fun _ h => nomatch h))
  obtain ⟨⟨oc, vs, tt, hoc, hdc, hvc⟩, _, _⟩ := I1.hok c' _ hc
  have rc : codeAny (model X.prog X.w) (X.A.deeper (envOfC qg sg sB.heap.objs.size g cdg)) (.call (.ref f) ⟨[], []⟩) (CR (L2.CX X.prog X.w) (envOfC qg sg sB.heap.objs.size g cdg :: X.stack) X.prog X.w H1 s1 Q E) s1 := by
    refine PySem.W.kla_callFunE hr.depth of1 rfl m.L.co m.L.gen rfl ⟨c', oc, vs, tt, rfl, hoc, hdc, hvc⟩ ?_
    have go : ∀ (binds : List (Str × Value)), (∀ y ∈ binds, scope.names.lookup y.1 = some .local) →
        wpAny (model X.prog X.w) (X.A.deeper (envOfC qg sg sB.heap.objs.size g cdg)).in1 (newFunctionEnv scope mainGlobals (cloFrom X.env.cells scope.names []) binds ((X.env.qual ++ "<lambda>") ++ ".<locals>.") (some f) (.ref c') none builtinsNs)
          (fun env s₂ => s₂.heap.NoLimit ∧ codeAny (model X.prog X.w) (X.A.deeper (envOfC qg sg sB.heap.objs.size g cdg)) (.expr body env) (CR (L2.CX X.prog X.w) (envOfC qg sg sB.heap.objs.size g cdg :: X.stack) X.prog X.w H1 s1 Q E) s₂)
          (fun e s' => CR (L2.CX X.prog X.w) (envOfC qg sg sB.heap.objs.size g cdg :: X.stack) X.prog X.w H1 s1 Q E (.error e) s') s1 := fun binds hb => by
      refine wpAny_newFunctionEnv (fun y hy => (m.L.own y hy).1) hb (fun h₁ hns hsb => ⟨I1.nolimit.fresh _ hsb, ?_⟩) m.L.kind
      have kp : ∀ b o, s1.heap.get? b = some o → h₁.get? b = some o := fun b o e => hsb.extBut b o (Nat.ne_of_lt (Heap.lt_size e)) (Heap.get?_push_of_some _ e)
      have J := lam_startV (E := E) (f := f) (c' := c') (tk := s1.toks + binds.length) I m.L I1.env0 hr.hd un2 hex hns kp
      refine PySem.W.kla_codeExpr (wpAny_mono ((m.pe _ _ s1 H1 E f c' (hr.deeper _)).run [] _ _ H1 Q J ht) (fun v s' hq => ?_) fun e s' hq => hq)
      obtain ⟨w', H', J', rv, q⟩ := hq
      exact ⟨w', H', J'.os, J'.bare, J'.base, J'.hok, rv, q⟩
    cases d with
    | none =>
      obtain rfl : dv = .none := hdv
      rw [m.b (X.env.qual ++ "<lambda>") (cloFrom X.env.cells scope.names []) pm (.ref c') ctv]
      exact wpAny_pure (go [] fun y hy => nomatch hy)
    | some n =>
      obtain ⟨T, rfl, hT⟩ := hdv
      obtain ⟨a0, ha0, hb⟩ := m.b
      obtain ⟨kf, e1, e2⟩ := hb (X.env.qual ++ "<lambda>") (cloFrom X.env.cells scope.names []) pm (.ref c') ctv T
      obtain ⟨_, its, rv, o, ho, _, nn, hod⟩ := I1.hok T _ hT
      rw [e1]
      refine wpAny_bind (wpAny_seqItems ho hod ?_)
      obtain ⟨u0, rfl, _⟩ : ∃ u, its = [u] ∧ True := by
        cases rv with
        | cons _ r => cases r; exact ⟨_, rfl, trivial⟩
      rw [show (some ([u0] : List Value).toArray) = some #[u0] from rfl, e2]
      refine wpAny_pure (go [(a0, u0)] fun y hy => ?_)
      rw [List.mem_singleton.mp hy]
      exact ha0
  have hx : Passes (L2.CX X.prog X.w) ((cxOf CXg X.prog X.w X.K X.mg X.base Ng qg sg g cdg X.A X.stack sB HB Eg).tr pn xe) E := passes_call tk hW
  refine wpAny_call (codeAny_mono rc fun r s' hq => ?_)
  cases r with
  | error e => exact hx pinsZ σZ H1 s1 e s' I1 hq
  | ok fl =>
    cases fl with
    | ret u => exact I1.after hq
    | next => exact False.elim hq
    | brk => exact False.elim hq
    | cont => exact False.elim hq
end
section
variable {X : Cx} {pins : List (Addr × Obj)} {σ : L2.St} {H : Hp} {s : Shared}
/-- the def at g, handed a lambda of ours -/
theorem run_toV {TT : (XK → Hp → VK → Prop) → Hp → VK → Prop} {x a q : Str} {g f : Addr} {k : Nat} {pg : Arguments} {bg : List Stmt} {sg : Scope} {dV kV doc pm cdv ct oc : Value} {an od : Option Addr} {osl : Array (Option Value)} {Ng : List Str} {t : XK → TE} {H1 : Hp} {s1 : Shared} {ex : List Addr} {Q : VK}
    (lk : X.K.lookup g = some ⟨oc, od, .func (PySem.W.fnOf x x pg bg sg dV kV doc pm an cdv ct), osl⟩) (hcg : PySem.W.codeIn X.K cdv x = true) (hb : L2.Binds X.K (PySem.W.fnOf x x pg bg sg dV kV doc pm an cdv ct) [a] []) (hq : X.env.qual ++ "<lambda>" = q) (hr : Room (k + 2) X.A)
    (hG : LamX.GivesTo X Ng x sg g cdv bg a q TT) (mono : ∀ {tl tl' : XK → Hp → VK → Prop} {H : Hp} {Q : VK}, (∀ E Q, tl E H Q → tl' E H Q) → TT tl H Q → TT tl' H Q) (Sg : FnScope Ng [a] sg) (hNg : Ng[0]? = some a) (hva : Vis sg a)
    (I : Inv X pins σ H s) (e0 : Env0 X.prog X.w X.K X.mg X.base X.A X.stack s1 H1) (kin : X.K.In s1.heap) (un : Un (frs X.stack) ex H H1 s.heap s1.heap) (hex : ∀ y c, X.env.cells.lookup y = some c → c ∉ ex)
    (hf : LamV X q k t H1 f) (hT : TT (fun E H' Q' => t E σ H' Q') H1 Q) (hd : (a == ("__debug__" : Str)) = false) (hcd : (a == ("__classdict__" : Str)) = false) :
    codeAny (model X.prog X.w) X.A (.call (.ref g) ⟨[.ref f], []⟩) (CR C8.CX0 X.stack X.prog X.w H1 s1 Q C8.E0) s1 := by
  refine LamX.run_ofS (N := Ng) (ps := [a]) (us := [.ref f]) (vs := [.ref f]) lk hcg Sg hr e0 (hb s1 [.ref f] kin rfl) (.cons rfl .nil) rfl fun hr1 => ?_
  obtain ⟨c', d, dv, h1, h2, h3⟩ := id hf
  obtain ⟨tz, hz, hqz⟩ := hG f c' s1 H1 Q (fun E H' Q' => LamV X q k t H' f ∧ t E σ H' Q') (fun W pn xe E p1 p2 tk hW => ⟨fun pz sz σz Hz Qz Iz hz => (pe_actV (i := 0) hq I un hex tk hW hr1 hNg hva hd hcd).run pz sz σz Hz Qz Iz ⟨hz.1, hz.2.2.1, hz.2.2.2⟩⟩) h2 (mono (fun E Q' z => ⟨hf, z⟩) hT)
  exact ⟨tz, hz.nox, hqz⟩
/-- x(e), e a lambda's name: with the names as they were at s (σ) -/
def tToV (X : Cx) (q : Str) (k : Nat) (TT : (XK → Hp → VK → Prop) → Hp → VK → Prop) (te : TE) (σ0 : L2.St) : TE := fun σ H Q => te σ H fun v H1 => ∃ f t, v = .ref f ∧ LamV X q k t H1 f ∧ TT (fun E H' Q' => t E σ0 H' Q') H1 Q
theorem pe_toV {TT : (XK → Hp → VK → Prop) → Hp → VK → Prop} {x a q : Str} {g : Addr} {k : Nat} {pg : Arguments} {bg : List Stmt} {sg : Scope} {dV kV doc pm cdv ct oc : Value} {an od : Option Addr} {osl : Array (Option Value)} {Ng : List Str} {e : Expr} {te : TE} {p pos : Pos} (hm : X.mg x = some (.ref g)) (hk : PySem.W.keepIn X.K (.ref g) = true)
    (lk : X.K.lookup g = some ⟨oc, od, .func (PySem.W.fnOf x x pg bg sg dV kV doc pm an cdv ct), osl⟩) (hcg : PySem.W.codeIn X.K cdv x = true) (hb : L2.Binds X.K (PySem.W.fnOf x x pg bg sg dV kV doc pm an cdv ct) [a] []) (hq : X.env.qual ++ "<lambda>" = q) (hr : Room (k + 2) X.A)
    (hG : LamX.GivesTo X Ng x sg g cdv bg a q TT) (mono : ∀ {tl tl' : XK → Hp → VK → Prop} {H : Hp} {Q : VK}, (∀ E Q, tl E H Q → tl' E H Q) → TT tl H Q → TT tl' H Q) (hg : Gl X x) (Sg : FnScope Ng [a] sg) (hNg : Ng[0]? = some a) (hva : Vis sg a) (he : PE X e te)
    (hst : starEach [e] X.env = (false, eval e X.env) :: starEach [] X.env) (hdb : (x == ("__debug__" : Str)) = false := by decide) (hd : (a == ("__debug__" : Str)) = false := by decide) (hcd : (a == ("__classdict__" : Str)) = false := by decide) :
    PE X (.Call (.Name x p) [e] [] pos) (fun σ H Q => tToV X q k TT te σ σ H Q) := by
  refine ⟨fun pins s σ H Q I hw => ?_⟩
  refine wpAny_Call_Name_kw (ld_glob I hg hm ?_ hdb)
  refine PySem.W.callWith_K (h₀ := X.base) I.ok.mod.kin hk ?_ hst (by rfl)
  rw [hst]
  show wpAny _ _ (spliced ((false, eval e X.env) :: backTo pos (starEach [] X.env))) _ _ s
  refine Calls.spliced_cons (thn (he.run pins s σ H _ I hw) fun u s1 ⟨v, H1, I1, r1, f, t, ev, hf, hT⟩ => ?_)
  subst ev
  obtain rfl : u = Value.ref f := r1
  refine Calls.spliced_nil ⟨I1.kIn, ?_⟩
  have rc := run_toV (ex := []) lk hcg hb hq hr hG mono Sg hNg hva I1 I1.env0 I1.kIn Un.refl (fun _ _ _ z => nomatch z) hf hT hd hcd
  refine wpAny_call (codeAny_mono rc fun r s2 hz => ?_)
  cases r with
  | error e => exact (show False from hz).elim
  | ok fl =>
    cases fl with
    | ret u => exact I1.after hz
    | next => exact False.elim hz
    | brk => exact False.elim hz
    | cont => exact False.elim hz
end
section
variable {X : Cx}
end
end WK

/-! texts compared by <= -/
namespace WK
open PySem PySem.Spec PyProof.Rows L2
section
variable {X : Cx}
theorem op_le_str : OpR X (compareOp .LtE) (fun x y H Q => ∃ i j, x = .str i ∧ y = .str j ∧ Q (.bl (!(decide (j.cps.toList < i.cps.toList)))) H) := by
  intro pins s σ H x y v u Q I rx ry h
  obtain ⟨i, j, rfl, rfl, q⟩ := h
  obtain ⟨t, rfl⟩ := rx
  obtain ⟨t', rfl⟩ := ry
  exact PySem.P.le_str (fin_bl I q rfl)
end
section
variable {P : Program} {w : World} {K : PySem.W.Frag} {H : Hp} {Q : VK}
theorem lt_one (c d : Nat) : ([c] < [d]) ↔ c < d := by
  constructor
  · intro h
    cases h with
    | rel h => exact h
    | cons h => cases h
  · intro h
    exact .rel h
theorem v_leS {c d : Nat} (k : Q (.bl (decide (c ≤ d))) H) : OpU P w K (compareOp .LtE) (.str ⟨#[c]⟩) (.str ⟨#[d]⟩) H Q :=
  .of (fun _ _ => op_le_str) ⟨_, _, rfl, rfl, by
    have e : (!(decide (([d] : List Nat) < [c]))) = decide (c ≤ d) := by
      by_cases h : c ≤ d
      · rw [decide_eq_true h, decide_eq_false (fun z => by have := (lt_one d c).mp z; omega)]
        rfl
      · rw [decide_eq_false h, decide_eq_true ((lt_one d c).mpr (by omega))]
        rfl
    show Q (.bl (!(decide (([d] : List Nat) < [c])))) H
    rw [e]
    exact k⟩
end
end WK
namespace WK
open PySem PySem.Spec PyProof.Rows L2
section
variable {P : Program} {w : World} {K : PySem.W.Frag} {F : Ent} {B H : Hp} {L : Led} {Q : VK}
/-- two lists of data, one behind the other -/
theorem v_catDD {x y : V} {ds es : List PyData} (S : Ok F B L H) (h1 : Dp K B x (.list ds)) (h2 : Dp K B y (.list es)) (hz : ds.length + es.length ≤ 100000) (k : ∀ r B' H', Ex B B' → Ok F B' L H' → Dp K B' r (.list (ds ++ es)) → Q r H') : OpU P w K (binaryOp .Add) x y H Q := by
  obtain ⟨a, xs, rfl, hq, ha⟩ := Dp.lst_inv h1
  obtain ⟨b, ys, rfl, hq2, ha2⟩ := Dp.lst_inv h2
  have l1 := ha.length
  have l2 := ha2.length
  refine v_catQ S (S.sqB hq) (S.sqB hq2) (by rw [sizeLine_eq]; omega) fun r H1 S1 => ?_
  obtain ⟨B2, e2, S2, h3⟩ := S1.toData (ha.append ha2)
  exact k _ _ _ e2 S2 h3
theorem strs_inv {l : List Str} {vs : List V} (h : DpAll K B vs (l.map PyData.str)) : vs = l.map V.str := by
  induction l generalizing vs with
  | nil => cases h; rfl
  | cons a l ih =>
    cases h with
    | cons h1 h2 => rw [List.map_cons, ← ih h2, h1.str_inv]
end
end WK

/-! a call inside a try: what it raises goes to the clause -/
namespace WK
open PySem PySem.Spec PyProof.Rows L2
def tFnXS (sp : Sp) (E : L2.St → XK) (t : TA) : TE := fun σ H Q => t σ H fun vs H1 => sp vs H1 Q (E σ)
section
variable {X : Cx} {k : Nat} {x : Str} {ps : List Str} {sp : Sp} {E : L2.St → XK} {e : Expr} {es : List Expr} {p pos : Pos} {t : TA}
end
end WK
namespace WK
open PySem PySem.Spec PyProof.Rows L2
section
variable {P : Program} {w : World} {K : PySem.W.Frag} {F : Ent} {B H : Hp} {L : Led} {Q : VK} {x y : V}
theorem cutV_mid (xs : List V) (i j : Nat) : cutV xs (some (i : Int)) (some (j : Int)) = (xs.take j).drop i := by
  unfold cutV
  rw [HT.sIx_nat, HT.sIx_nat]
  rcases Nat.le_total j xs.length with h | h
  · rw [Nat.min_eq_left h]
    rcases Nat.le_total i xs.length with g | g
    · rw [Nat.min_eq_left g, ← List.drop_take]
    · rw [Nat.min_eq_right g, List.drop_length, List.take_nil]
      refine (List.drop_eq_nil_of_le ?_).symm
      rw [List.length_take]
      omega
  · rw [Nat.min_eq_right h, List.take_of_length_le h]
    rcases Nat.le_total i xs.length with g | g
    · rw [Nat.min_eq_left g]
      refine List.take_of_length_le ?_
      rw [List.length_drop]
      exact Nat.le_refl _
    · rw [Nat.min_eq_right g, List.drop_length, List.take_nil]
      exact (List.drop_eq_nil_of_le g).symm
theorem v_slMid {ds : List PyData} {i j : Nat} (S : Ok F B L H) (h : Dp K B x (.list ds)) (k : ∀ r B' H', Ex B B' → Ok F B' L H' → Dp K B' r (.list ((ds.take j).drop i)) → Q r H') : SlU P w K x (some (i : Int)) (some (j : Int)) H Q := by
  obtain ⟨a, xs, rfl, hq, ha⟩ := Dp.lst_inv h
  refine .ofK (r := rSlL) (fun _ _ => sl_list) ⟨a, xs, rfl, S.sqB hq, fun p hp => ?_⟩
  rw [cutV_mid]
  obtain ⟨B', e, S', hD⟩ := (S.newL (o := .lst ((xs.take j).drop i)) hp).toData ((ha.take j).drop i)
  exact k _ _ _ e S' hD
end
end WK

/-! calls that may raise: of a class, with defaults, by keywords -/
namespace WK
open PySem PySem.Spec PyProof.Rows L2
def MkGX (P : Program) (w : World) (K : PySem.W.Frag) (mg : Str → Option Value) (base : Heap) (k : Nat) (C : Addr) (x : Str) (ps : List Str) (sp : Sp) : Prop :=
  ∃ f fd, FnOk P w K mg base (L2.CX P w) k f fd ps sp ∧ Mk K C f ∧ mg x = some (.ref C) ∧ Binds K fd ps []
def FnGDX (P : Program) (w : World) (K : PySem.W.Frag) (mg : Str → Option Value) (base : Heap) (k : Nat) (x : Str) (ps : List Str) (dvs : List V) (sp : Sp) : Prop :=
  ∃ f fd ds, FnOk P w K mg base (L2.CX P w) k f fd ps sp ∧ mg x = some (.ref f) ∧ PySem.W.keepIn K (.ref f) = true ∧ Binds K fd ps ds ∧ Vals dvs ds
def FnGNX (P : Program) (w : World) (K : PySem.W.Frag) (mg : Str → Option Value) (base : Heap) (k : Nat) (x : Str) (ps : List Str) (n : Nat) (ks : List Str) (gV : List V → List V → List V) (sp : Sp) : Prop :=
  ∃ f fd g, FnOk P w K mg base (L2.CX P w) k f fd ps sp ∧ mg x = some (.ref f) ∧ PySem.W.keepIn K (.ref f) = true ∧ KBn K fd ps n ks g gV
def tMkX (C : Addr) (sp : Sp) (E : XK) (t : TA) : TE := fun σ H Q => t σ H fun vs H1 => ∀ x dx, H1 x = none → H1 dx = none → dx ≠ x →
  sp (.ref x :: vs) (upd (upd H1 dx (.own x)) x (.ins C dx [])) (fun v H2 => v = .non ∧ Q (.ref x) H2) E
theorem tMkX_eq {C : Addr} {sp : Sp} {E : XK} {t : TA} : tMake C sp [] E t = tMkX C sp E t := by
  unfold tMake tMkX
  simp only [List.append_nil]
section
variable {X : Cx} {k n : Nat} {C : Addr} {x : Str} {ps ks : List Str} {dvs : List V} {sp : Sp} {gV : List V → List V → List V} {E : XK} {e : Expr} {es : List Expr} {kws : List Keyword} {p pos : Pos} {t tk : TA}
theorem pe_mkX (G : MkGX X.prog X.w X.K X.mg X.base k C x ps sp) (hr : Room (k + 1) X.A) (hx : Passes (L2.CX X.prog X.w) X E) (hg : Gl X x) (ha : PA X (e :: es) t) (hdb : (x == ("__debug__" : Str)) = false := by decide)
    (he : starEach (e :: es) X.env = (false, eval e X.env) :: starEach es X.env := by rfl) (hpl : (backTo pos (starEach es X.env)).any (·.1) = false := by rfl) : PE X (.Call (.Name x p) (e :: es) [] pos) (tMkX C sp E t) := by
  obtain ⟨f, fd, F, M, hm, hb⟩ := G
  rw [← tMkX_eq]
  exact pe_make M F hr hg hm hb .nil hx ha hdb he hpl
def MkXQ (C : Addr) (sp : Sp) (E : XK) (Q : VK) : List V → Hp → Prop := fun vs H1 => ∀ x dx, H1 x = none → H1 dx = none → dx ≠ x → sp (.ref x :: vs) (upd (upd H1 dx (.own x)) x (.ins C dx [])) (fun v H2 => v = .non ∧ Q (.ref x) H2) E
theorem r_mkX {σ : L2.St} {H : Hp} {Q : VK} (kk : t σ H (MkXQ C sp E Q)) : tMkX C sp E t σ H Q := kk
theorem mkXQ {F : Ent} {B H : Hp} {L : Led} {Q : VK} {vs : List V} (S : Ok F B L H) (k : ∀ x dx H', Ok F B ((x, .ins C dx []) :: L) H' → sp (.ref x :: vs) H' (fun v H2 => v = .non ∧ Q (.ref x) H2) E) : MkXQ C sp E Q vs H := fun x dx hx hdx ne =>
  k x dx _ ((S.junk hdx).newL (by rw [upd_ne (fun z => ne z.symm)]; exact hx))
end
end WK

/-! books that can't be, at one row -/
namespace PM
open PySem L2 WK
def SmallRow (r : PRow) : Prop := r.name.length ≤ 3500 ∧ r.needs.length ≤ 3500 ∧ r.steps.length ≤ 3500
structure BadAt (rs : List PRow) (at_ : Nat) (r : PRow) : Prop where
  get : rs[at_]? = some r
  good : GoodBook (rs.take at_)
  small : SmallRow r
  bad : at_ = 12 ∨ ¬ GoodRow ((rs.take at_).map (·.name)) r ∨ (GoodRow ((rs.take at_).map (·.name)) r ∧ 200 < ((ledTo ((rs.take at_).map (·.name) ++ [r.name]) (ledOf (rs.take at_)) r.needs).map (·.2)).sum)
theorem needs_row {rs : List PRow} {r : PRow} (G : GoodBook rs) (R : GoodRow (rs.map (·.name)) r) : ∀ x ∈ r.needs, x.1 ∈ rs.map (·.name) ++ [r.name] ∧ (1 ≤ x.2 ∧ x.2 ≤ 9) ∧ ∃ m, getA (ledOf rs) x.1 = some m ∧ ∀ y ∈ m, y.1 ∈ rs.map (·.name) ++ [r.name] := by
  intro x hx
  obtain ⟨m, hm⟩ := getA_of_mem (l := ledOf rs) (s := x.1) (by rw [ledOf_names]; exact R.known x hx)
  have hkn := G.known rs.length
  rw [List.take_length] at hkn
  exact ⟨List.mem_append_left _ (R.known x hx), R.many x hx, m, hm, fun y hy => List.mem_append_left _ (hkn _ (getA_mem hm) y hy)⟩
theorem names_row {rs : List PRow} {r : PRow} (G : GoodBook rs) (R : GoodRow (rs.map (·.name)) r) : (rs.map (·.name) ++ [r.name]).Nodup :=
  List.nodup_append.mpr ⟨G.nd, List.nodup_cons.mpr ⟨(by simp), List.nodup_nil⟩, fun a ha b hb hab => by
    rw [List.mem_singleton] at hb
    subst hb hab
    exact R.new ha⟩
theorem BadAt.len {rs : List PRow} {at_ : Nat} {r : PRow} (G : BadAt rs at_ r) : at_ < rs.length ∧ at_ ≤ 12 := by
  have h := (List.getElem?_eq_some_iff.mp G.get).1
  have h2 := G.good.len
  rw [List.length_take] at h2
  omega
theorem BadAt.nd {rs : List PRow} {at_ : Nat} {r : PRow} (G : BadAt rs at_ r) {i : Nat} (hi : i ≤ at_) : GoodBook (rs.take i) := by
  have := G.good.cut i
  rw [List.take_take, Nat.min_eq_left hi] at this
  exact this
theorem BadAt.at_row {rs : List PRow} {at_ : Nat} {r : PRow} (G : BadAt rs at_ r) {i : Nat} {y : PRow} (h : rs[i]? = some y) (hi : i ≤ at_) :
    (i = 12 ∧ i = at_) ∨ (i ≠ 12 ∧ i = at_ ∧ SmallRow y ∧ ¬ GoodRow ((rs.take i).map (·.name)) y) ∨
    (i ≠ 12 ∧ i < 12 ∧ GoodRow ((rs.take i).map (·.name)) y ∧ ((i < at_ ∧ ((ledTo ((rs.take i).map (·.name) ++ [y.name]) (ledOf (rs.take i)) y.needs).map (·.2)).sum ≤ 200) ∨
      (i = at_ ∧ 200 < ((ledTo ((rs.take i).map (·.name) ++ [y.name]) (ledOf (rs.take i)) y.needs).map (·.2)).sum))) := by
  obtain ⟨l1, l2⟩ := G.len
  by_cases h12 : i = 12
  · exact .inl ⟨h12, by omega⟩
  rcases Nat.lt_or_eq_of_le hi with hlt | rfl
  · have hg : (rs.take at_)[i]? = some y := by rw [List.getElem?_take_of_lt hlt]; exact h
    have R := G.good.row i y hg
    rw [List.take_take, Nat.min_eq_left hi] at R
    refine .inr (.inr ⟨h12, by omega, R, .inl ⟨hlt, ?_⟩⟩)
    have hst := ledOf_take hg
    have hm := ledOf_sub (rs := rs.take at_) (i + 1) (y.name, ledTo ((ledOf ((rs.take at_).take i)).map (·.1) ++ [y.name]) (ledOf ((rs.take at_).take i)) y.needs) (by rw [hst]; exact List.mem_append_right _ (.head _))
    have := G.good.led _ hm
    rw [List.take_take, Nat.min_eq_left hi, ledOf_names] at this
    exact this
  · have e := G.get
    rw [h] at e
    cases e
    rcases G.bad with b | b | ⟨b1, b2⟩
    · exact absurd b h12
    · exact .inr (.inl ⟨h12, rfl, G.small, b⟩)
    · exact .inr (.inr ⟨h12, by omega, b1, .inr ⟨rfl, b2⟩⟩)
end PM

/-! known books, deeds on known floors (plain) -/
namespace PM
open PySem L2 WK
def goodRowB (names : List Str) (r : PRow) : Bool :=
  isNameM r.name && decide (r.name ∉ names) && decide (1 ≤ r.lot ∧ r.lot ≤ 99) && decide (0 ≤ r.lead ∧ r.lead ≤ 30) && decide ((r.needs.map (·.1)).Nodup) && r.needs.all (fun x => decide (x.1 ∈ names)) && r.needs.all (fun x => decide (1 ≤ x.2 ∧ x.2 ≤ 9)) && decide (r.steps.length ≤ 5) && r.steps.all (fun x => decide ((0 ≤ x.1 ∧ x.1 < 6) ∧ 1 ≤ x.2 ∧ x.2 ≤ 99))
def goodB (rs : List PRow) : Bool :=
  decide (rs.length ≤ 12) && (List.range rs.length).all (fun i => match rs[i]? with | some r => goodRowB ((rs.take i).map (·.name)) r | none => true) && (ledOf rs).all (fun p => decide ((p.2.map (·.2)).sum ≤ 200))
theorem goodB_book {rs : List PRow} (h : goodB rs = true) : GoodBook rs := by
  unfold goodB at h
  rw [Bool.and_eq_true, Bool.and_eq_true, decide_eq_true_iff, List.all_eq_true, List.all_eq_true] at h
  obtain ⟨⟨h1, h2⟩, h3⟩ := h
  refine ⟨h1, fun i r hr => ?_, fun p hp => of_decide_eq_true (h3 p hp)⟩
  have hi := (List.getElem?_eq_some_iff.mp hr).1
  have h4 := h2 i (List.mem_range.mpr hi)
  rw [hr] at h4
  replace h4 : goodRowB ((rs.take i).map (·.name)) r = true := h4
  unfold goodRowB at h4
  simp only [Bool.and_eq_true, decide_eq_true_iff, List.all_eq_true] at h4
  obtain ⟨⟨⟨⟨⟨⟨⟨⟨a1, a2⟩, a3⟩, a4⟩, a5⟩, a6⟩, a7⟩, a8⟩, a9⟩ := h4
  exact ⟨a1, a2, a3, a4, a5, a6, a7, a8, a9⟩
section
variable {fs : Fl} {k : Nat} {p : Pc}
end
end PM

/-! k28: any text read -/
namespace PM
open PySem L2 WK
def isDig (c : Nat) : Bool := decide (48 ≤ c) && decide (c ≤ 57)
def isNum (z : Str) : Bool := decide (1 ≤ (z.length : Int)) && (decide ((z.length : Int) ≤ 2) && (z.cps.toList.all isDig && (decide (z = "0") || decide (z.cps.toList.getD 0 0 ≠ 48))))
def numM (z : Str) : Int := if isNum z = true then (PySem.intText? z).getD (-1) else -1
theorem num1 : ∀ k : Fin 10, (⟨#[48 + k.val]⟩ : Str) = numS (k.val : Int) := by decide +kernel
theorem num2 : ∀ k j : Fin 10, k.val ≠ 0 → (⟨#[48 + k.val, 48 + j.val]⟩ : Str) = numS ((10 * k.val + j.val : Nat) : Int) := by decide +kernel
theorem numS_is : ∀ k : Fin 100, isNum (numS (k.val : Int)) = true := by decide +kernel
theorem str_list {z : Str} {l : List Nat} (h : z.cps.toList = l) : z = ⟨l.toArray⟩ := by
  have : z.cps = l.toArray := by rw [← h]
  cases z
  exact congrArg Str.mk this
theorem isNum_some {z : Str} (h : isNum z = true) : ∃ i : Int, (0 ≤ i ∧ i < 100) ∧ z = numS i := by
  unfold isNum at h
  simp only [Bool.and_eq_true, decide_eq_true_eq] at h
  obtain ⟨h1, h2, h3, h4⟩ := h
  have hl : z.cps.toList.length = z.length := Array.length_toList
  have hd : ∀ c ∈ z.cps.toList, 48 ≤ c ∧ c ≤ 57 := fun c hc => by
    have := List.all_eq_true.mp h3 c hc
    unfold isDig at this
    simp only [Bool.and_eq_true, decide_eq_true_eq] at this
    exact this
  cases e : z.cps.toList with
  | nil => rw [e] at hl; simp at hl; omega
  | cons c t =>
    cases t with
    | nil =>
      have hc := hd c (by rw [e]; exact .head _)
      have := num1 ⟨c - 48, by omega⟩
      rw [show 48 + (⟨c - 48, by omega⟩ : Fin 10).val = c by show 48 + (c - 48) = c; omega] at this
      exact ⟨((c - 48 : Nat) : Int), by omega, (str_list e).trans this⟩
    | cons d t =>
      cases t with
      | cons _ _ => rw [e] at hl; simp at hl; omega
      | nil =>
        have hc := hd c (by rw [e]; exact .head _)
        have hd := hd d (by rw [e]; exact .tail _ (.head _))
        have hc0 : c ≠ 48 := by
          intro h0
          rw [e] at h4
          simp only [Bool.or_eq_true, decide_eq_true_eq, List.getD_cons_zero] at h4
          rcases h4 with h4 | h4
          · have := congrArg (fun z : Str => z.cps.toList.length) h4
            rw [e] at this
            cases this
          · exact h4 h0
        have := num2 ⟨c - 48, by omega⟩ ⟨d - 48, by omega⟩ (by show c - 48 ≠ 0; omega)
        rw [show 48 + (⟨c - 48, by omega⟩ : Fin 10).val = c by show 48 + (c - 48) = c; omega, show 48 + (⟨d - 48, by omega⟩ : Fin 10).val = d by show 48 + (d - 48) = d; omega] at this
        exact ⟨((10 * (c - 48) + (d - 48) : Nat) : Int), by omega, (str_list e).trans this⟩
theorem isNum_numS {i : Int} (h0 : 0 ≤ i) (h1 : i < 100) : isNum (numS i) = true := by
  have := numS_is ⟨i.toNat, by omega⟩
  rwa [show ((i.toNat : Nat) : Int) = i by omega] at this
theorem numM_numS {i : Int} (h0 : 0 ≤ i) (h1 : i < 100) : numM (numS i) = i := by
  unfold numM
  rw [if_pos (isNum_numS h0 h1)]
  obtain ⟨_, _, h, _⟩ := num_fact ⟨i.toNat, by omega⟩
  have hi : (((⟨i.toNat, by omega⟩ : Fin 100).val : Nat) : Int) = i := by show ((i.toNat : Nat) : Int) = i; omega
  rw [hi] at h
  rw [h]
  rfl
theorem numM_yes {z : Str} (h : isNum z = true) : (0 ≤ numM z ∧ numM z < 100) ∧ z = numS (numM z) := by
  obtain ⟨i, hi, rfl⟩ := isNum_some h
  rw [numM_numS hi.1 hi.2]
  exact ⟨hi, rfl⟩
theorem numM_no {z : Str} (h : isNum z = false) : numM z = -1 := by
  unfold numM
  rw [h]
  rfl
theorem figs_has (c : Nat) : figs.cps.contains c = isDig c := by
  have h1 : ∀ k ∈ figs.cps.toList, isDig k = true := by decide +kernel
  have h2 : ∀ k : Fin 10, figs.cps.contains (48 + k.val) = true := by decide +kernel
  cases e : isDig c with
  | true =>
    unfold isDig at e
    simp only [Bool.and_eq_true, decide_eq_true_eq] at e
    have := h2 ⟨c - 48, by omega⟩
    rwa [show 48 + (⟨c - 48, by omega⟩ : Fin 10).val = c by show 48 + (c - 48) = c; omega] at this
  | false =>
    cases e2 : figs.cps.contains c with
    | false => rfl
    | true =>
      have := h1 c (Array.mem_toList_iff.mpr (Array.contains_iff_mem.mp e2))
      rw [e] at this
      cases this
theorem strip_ne {z : Str} (h2 : z.length ≤ 2) (h : z.cps.toList.all isDig = false) : Txt.stripChars z figs ≠ "" := by
  have hl : z.cps.toList.length = z.length := Array.length_toList
  cases e : z.cps.toList with
  | nil => rw [e] at h; cases h
  | cons c t =>
    cases t with
    | nil =>
      obtain rfl := str_list e
      have hc : isDig c = false := by simpa using h
      have hf := figs_has c
      rw [hc] at hf
      unfold Txt.stripChars
      rw [PyProof.Rows.stripBy_eq]
      generalize figs.cps.contains = p at hf ⊢
      intro e2
      have e3 := congrArg (fun z : Str => z.cps.toList.length) e2
      simp [Builtin.Str.strSub, stripLo, stripHi, hf, Str.length, List.takeWhile] at e3
      have z0 : (Str.ofString "").cps.size = 0 := by decide +kernel
      omega
    | cons d t =>
      cases t with
      | cons _ _ => rw [e] at hl; simp at hl; omega
      | nil =>
        obtain rfl := str_list e
        have hf := figs_has c
        have hg := figs_has d
        unfold Txt.stripChars
        rw [PyProof.Rows.stripBy_eq]
        generalize figs.cps.contains = p at hf hg ⊢
        intro e2
        have e3 := congrArg (fun z : Str => z.cps.toList.length) e2
        cases hc : isDig c <;> cases hd : isDig d
        · rw [hc] at hf; rw [hd] at hg
          simp [Builtin.Str.strSub, stripLo, stripHi, hf, hg, Str.length, List.takeWhile] at e3
          have z0 : (Str.ofString "").cps.size = 0 := by decide +kernel
          omega
        · rw [hc] at hf; rw [hd] at hg
          simp [Builtin.Str.strSub, stripLo, stripHi, hf, hg, Str.length, List.takeWhile] at e3
          have z0 : (Str.ofString "").cps.size = 0 := by decide +kernel
          omega
        · rw [hc] at hf; rw [hd] at hg
          simp [Builtin.Str.strSub, stripLo, stripHi, hf, hg, Str.length, List.takeWhile] at e3
          have z0 : (Str.ofString "").cps.size = 0 := by decide +kernel
          omega
        · rw [show (⟨[c, d].toArray⟩ : Str).cps.toList = [c, d] from rfl] at h
          simp [hc, hd] at h
/-! ### what a row of words is -/
def tagM : List Str → Option Tg
  | [w, z, a, b] => if w = "part" ∧ isNameM z = true ∧ isNum a = true ∧ isNum b = true then some (.part z (numM a) (numM b)) else none
  | [w, x, y] => if w = "need" ∧ isNameM x = true ∧ isNum y = true then some (.need x (numM y)) else if w = "step" ∧ isNum x = true ∧ isNum y = true then some (.step (numM x) (numM y)) else none
  | _ => none
def takes : RdS → Tg → Bool
  | _, .part _ _ _ => true
  | some (_, r), .need _ _ => r.steps.isEmpty
  | some _, .step _ _ => true
  | none, _ => false
def take1 (st : RdS) (ws : List Str) : Option RdS := (tagM ws).bind fun t => if takes st t = true then some (rd1 st t) else none
theorem tagM_words {ws : List Str} {t : Tg} (h : tagM ws = some t) : ws = t.words ∧ t.ok := by
  unfold tagM at h
  split at h
  · split at h
    · rename_i w z a b hc
      obtain ⟨rfl, h1, h2, h3⟩ := hc
      cases h
      obtain ⟨ha, ea⟩ := numM_yes h2
      obtain ⟨hb, eb⟩ := numM_yes h3
      refine ⟨?_, h1, ha, hb⟩
      show _ = (["part", z, numS (numM a), numS (numM b)] : List Str)
      rw [← ea, ← eb]
    · cases h
  · split at h
    · rename_i w x y hc
      obtain ⟨rfl, h1, h2⟩ := hc
      cases h
      obtain ⟨ha, ea⟩ := numM_yes h2
      refine ⟨?_, h1, ha⟩
      show _ = (["need", x, numS (numM y)] : List Str)
      rw [← ea]
    · split at h
      · rename_i w x y _ hc
        obtain ⟨rfl, h1, h2⟩ := hc
        cases h
        obtain ⟨ha, ea⟩ := numM_yes h1
        obtain ⟨hb, eb⟩ := numM_yes h2
        refine ⟨?_, ha, hb⟩
        show _ = (["step", numS (numM x), numS (numM y)] : List Str)
        rw [← ea, ← eb]
      · cases h
  · cases h
theorem take1_some {st st' : RdS} {ws : List Str} (h : take1 st ws = some st') : ∃ t, tagM ws = some t ∧ takes st t = true ∧ st' = rd1 st t := by
  unfold take1 at h
  obtain ⟨t, h1, h2⟩ := Option.bind_eq_some_iff.mp h
  split at h2
  · cases h2
    exact ⟨t, h1, by assumption, rfl⟩
  · cases h2
theorem no_part {st : RdS} {z a b : Str} (h : take1 st ["part", z, a, b] = none) : ¬ (isNameM z = true ∧ isNum a = true ∧ isNum b = true) := fun c => by
  have e : tagM ["part", z, a, b] = some (.part z (numM a) (numM b)) := if_pos ⟨rfl, c⟩
  unfold take1 at h
  rw [e] at h
  cases h
theorem no_need {qs : List PRow} {r : PRow} {x y : Str} (h : take1 (some (qs, r)) ["need", x, y] = none) (h1 : isNameM x = true) (h2 : isNum y = true) : r.steps ≠ [] := fun c => by
  have e : tagM ["need", x, y] = some (.need x (numM y)) := if_pos ⟨rfl, h1, h2⟩
  have e2 : takes (some (qs, r)) (.need x (numM y)) = true := List.isEmpty_iff.mpr c
  unfold take1 at h
  rw [e, Option.bind_some, if_pos e2] at h
  cases h
theorem no_step {qs : List PRow} {r : PRow} {x y : Str} (h : take1 (some (qs, r)) ["step", x, y] = none) : ¬ (isNum x = true ∧ isNum y = true) := fun c => by
  have e : tagM ["step", x, y] = some (.step (numM x) (numM y)) := by
    have hns : ¬ (("step" : Str) = "need" ∧ isNameM x = true ∧ isNum y = true) := fun z => absurd z.1 (by decide +kernel)
    show (if ("step" : Str) = "need" ∧ isNameM x = true ∧ isNum y = true then some (Tg.need x (numM y)) else if ("step" : Str) = "step" ∧ isNum x = true ∧ isNum y = true then some (.step (numM x) (numM y)) else none) = _
    rw [if_neg hns]
    exact if_pos ⟨rfl, c⟩
  unfold take1 at h
  rw [e] at h
  cases h
def after (ls : List (List Str)) : Option RdS := ls.foldl (fun s ws => s.bind fun st => take1 st ws) (some none)
theorem after_snoc (ls : List (List Str)) (ws : List Str) : after (ls ++ [ws]) = (after ls).bind fun st => take1 st ws := by
  unfold after
  rw [List.foldl_append]
  rfl
def FailAt (ls : List (List Str)) (k : Nat) : Prop := ∃ st ws, ls[k]? = some ws ∧ after (ls.take k) = some st ∧ take1 st ws = none
theorem after_take {ls : List (List Str)} {i : Nat} {ws : List Str} (h : ls[i]? = some ws) : after (ls.take (i + 1)) = (after (ls.take i)).bind fun st => take1 st ws := by
  rw [List.take_add_one, h]
  exact after_snoc _ _
/-- what was read is small -/
structure RdOk (st : RdS) (i : Nat) : Prop where
  row : ∀ r ∈ rdRows st, r.name.length ≤ 8 ∧ r.needs.length ≤ i ∧ r.steps.length ≤ i
  size : rdSize st ≤ i
theorem RdOk.zero : RdOk none 0 := ⟨fun r h => (by cases h), Nat.le_refl _⟩
theorem RdOk.more {st : RdS} {i : Nat} (h : RdOk st i) {t : Tg} (hok : t.ok) : RdOk (rd1 st t) (i + 1) := by
  refine ⟨fun r hr => ?_, Nat.le_trans (rd1_size st t) (Nat.succ_le_succ h.size)⟩
  have lift : ∀ x ∈ rdRows st, x.name.length ≤ 8 ∧ x.needs.length ≤ i + 1 ∧ x.steps.length ≤ i + 1 := fun x hx => by
    obtain ⟨a, b, c⟩ := h.row x hx
    exact ⟨a, by omega, by omega⟩
  cases st with
  | none =>
    cases t with
    | part z a b =>
      obtain rfl := List.mem_singleton.mp (show r ∈ [_] from hr)
      exact ⟨name_len hok.1, Nat.zero_le _, Nat.zero_le _⟩
    | need z a => cases hr
    | step a b => cases hr
  | some w =>
    obtain ⟨qs, q⟩ := w
    have hq := h.row q (List.mem_append_right _ (.head _))
    cases t with
    | part z a b =>
      rcases List.mem_append.mp (show r ∈ (qs ++ [q]) ++ [_] from hr) with hr | hr
      · exact lift r hr
      · obtain rfl := List.mem_singleton.mp hr
        exact ⟨name_len hok.1, Nat.zero_le _, Nat.zero_le _⟩
    | need z a =>
      rcases List.mem_append.mp (show r ∈ qs ++ [_] from hr) with hr | hr
      · exact lift r (List.mem_append_left _ hr)
      · obtain rfl := List.mem_singleton.mp hr
        refine ⟨hq.1, ?_, ?_⟩
        · show (q.needs ++ [_]).length ≤ i + 1
          rw [List.length_append, List.length_singleton]
          omega
        · show q.steps.length ≤ i + 1
          omega
    | step a b =>
      rcases List.mem_append.mp (show r ∈ qs ++ [_] from hr) with hr | hr
      · exact lift r (List.mem_append_left _ hr)
      · obtain rfl := List.mem_singleton.mp hr
        refine ⟨hq.1, ?_, ?_⟩
        · show q.needs.length ≤ i + 1
          omega
        · show (q.steps ++ [_]).length ≤ i + 1
          rw [List.length_append, List.length_singleton]
          omega
theorem after_ok : ∀ (i : Nat) (ls : List (List Str)), i ≤ ls.length → ∀ st, after (ls.take i) = some st → RdOk st i
  | 0, ls, _, st, h => by
    rw [List.take_zero] at h
    cases h
    exact RdOk.zero
  | i + 1, ls, hi, st, h => by
    have hi' : i < ls.length := hi
    rw [after_take (List.getElem?_eq_getElem hi')] at h
    obtain ⟨st0, h0, h1⟩ := Option.bind_eq_some_iff.mp h
    obtain ⟨t, ht, _, rfl⟩ := take1_some h1
    exact (after_ok i ls (by omega) st0 h0).more (tagM_words ht).2
theorem takes_SOk {st : RdS} {t : Tg} (h : takes st t = true) : SOk st t := by
  cases t with
  | part z a b => exact True.intro
  | need z a =>
    cases st with
    | none => cases h
    | some w =>
      obtain ⟨qs, r⟩ := w
      exact ⟨qs, r, rfl, List.isEmpty_iff.mp h⟩
  | step a b =>
    cases st with
    | none => cases h
    | some w => exact ⟨w.1, w.2, rfl⟩
/-! ### any rows: a book, or bad at one row -/
theorem GoodBook.snocL {rs : List PRow} (G : GoodBook rs) (h12 : rs.length < 12) {r : PRow} (R : GoodRow (rs.map (·.name)) r) (hs : ((ledTo (rs.map (·.name) ++ [r.name]) (ledOf rs) r.needs).map (·.2)).sum ≤ 200) : GoodBook (rs ++ [r]) := by
  refine ⟨by rw [List.length_append, List.length_singleton]; omega, fun i x hi => ?_, fun p hp => ?_⟩
  · by_cases h : i < rs.length
    · rw [List.getElem?_append_left h] at hi
      rw [List.take_append_of_le_length (by omega)]
      exact G.row i x hi
    · have : i = rs.length := by
        have := (List.getElem?_eq_some_iff.mp hi).1
        rw [List.length_append, List.length_singleton] at this
        omega
      subst this
      rw [List.getElem?_append_right (Nat.le_refl _), Nat.sub_self] at hi
      cases hi
      rw [List.take_left]
      exact R
  · rw [ledOf_snoc] at hp
    rcases List.mem_append.mp hp with hp | hp
    · exact G.led p hp
    · rw [List.mem_singleton] at hp
      subst hp
      rw [ledOf_names]
      exact hs
theorem book_or {rs : List PRow} (sm : ∀ r ∈ rs, SmallRow r) : ∀ n, n ≤ rs.length → GoodBook (rs.take n) ∨ ∃ at_ r, BadAt rs at_ r
  | 0, _ => .inl (by rw [List.take_zero]; exact GoodBook.nil)
  | n + 1, h => by
    have hn : n < rs.length := h
    rcases book_or sm n (by omega) with G | h1
    · have hr := List.getElem?_eq_getElem hn
      have hs := sm _ (List.getElem_mem hn)
      have hl : (rs.take n).length = n := by rw [List.length_take]; omega
      by_cases h12 : n = 12
      · exact .inr ⟨n, rs[n], hr, G, hs, .inl h12⟩
      · by_cases R : GoodRow ((rs.take n).map (·.name)) rs[n]
        · rcases Int.lt_or_le 200 ((ledTo ((rs.take n).map (·.name) ++ [rs[n].name]) (ledOf (rs.take n)) rs[n].needs).map (·.2)).sum with h2 | h2
          · exact .inr ⟨n, rs[n], hr, G, hs, .inr (.inr ⟨R, h2⟩)⟩
          · refine .inl ?_
            rw [List.take_add_one, hr]
            have := G.len
            exact G.snocL (by omega) R h2
        · exact .inr ⟨n, rs[n], hr, G, hs, .inr (.inl R)⟩
    · exact .inr h1
/-- lines and their words -/
def linesM (z : Str) : List Str := if z = "" then [] else Txt.split z nlS
def wordsM (z : Str) : List (List Str) := (linesM z).map fun l => Txt.split l spc
theorem spl_facts (S : List Nat) : ∀ (l : List Nat) (k : Nat) (acc : List Nat), TL.spl S k acc l ≠ [] ∧ (TL.spl S k acc l).length ≤ l.length + 1 ∧ ∀ p ∈ TL.spl S k acc l, p.length ≤ acc.length + l.length
  | [], k, acc => by
    rw [TL.spl_nil]
    exact ⟨List.cons_ne_nil _ _, Nat.le_refl _, fun p hp => by rw [List.mem_singleton.mp hp]; exact Nat.le_refl _⟩
  | c :: r, 0, acc => by
    cases h : TL.pre S (c :: r) with
    | true =>
      rw [TL.spl_hit h]
      obtain ⟨h1, h2, h3⟩ := spl_facts S r (S.length - 1) []
      refine ⟨List.cons_ne_nil _ _, by rw [List.length_cons, List.length_cons]; omega, fun p hp => ?_⟩
      rw [List.length_cons]
      rcases List.mem_cons.mp hp with rfl | hp
      · omega
      · have := h3 p hp
        rw [List.length_nil] at this
        omega
    | false =>
      rw [TL.spl_miss h]
      obtain ⟨h1, h2, h3⟩ := spl_facts S r 0 (acc ++ [c])
      refine ⟨h1, by rw [List.length_cons]; omega, fun p hp => ?_⟩
      have := h3 p hp
      rw [List.length_append, List.length_singleton] at this
      rw [List.length_cons]
      omega
  | c :: r, k + 1, acc => by
    have e : TL.spl S (k + 1) acc (c :: r) = TL.spl S k acc r := rfl
    rw [e]
    obtain ⟨h1, h2, h3⟩ := spl_facts S r k acc
    refine ⟨h1, by rw [List.length_cons]; omega, fun p hp => ?_⟩
    have := h3 p hp
    rw [List.length_cons]
    omega
theorem split_facts (z : Str) {y : Str} (hy : TL.tl y ≠ []) (hk : y.cps.all (· < 256) = true) : Txt.split z y ≠ [] ∧ (Txt.split z y).length ≤ z.length + 1 ∧ ∀ p ∈ Txt.split z y, p.length ≤ z.length := by
  have e := TL.split_spl z y hy (TL.kind_ok hk)
  obtain ⟨h1, h2, h3⟩ := spl_facts (TL.tl y) (TL.tl z) 0 []
  rw [← e] at h1 h2 h3
  refine ⟨fun h => h1 (by rw [h]; rfl), ?_, fun p hp => ?_⟩
  · rw [List.length_map] at h2
    rw [TL.len_tl]
    exact h2
  · have := h3 (TL.tl p) (List.mem_map.mpr ⟨p, hp, rfl⟩)
    rw [List.length_nil, Nat.zero_add] at this
    rw [TL.len_tl, TL.len_tl]
    exact this
theorem lines_facts {z : Str} {n : Nat} (h : z.length ≤ n) : (linesM z).length ≤ n + 1 ∧ ∀ l ∈ linesM z, l.length ≤ n := by
  unfold linesM
  split
  · exact ⟨Nat.zero_le _, fun l h => nomatch h⟩
  · obtain ⟨h1, h2, h3⟩ := split_facts z (y := nlS) (by decide +kernel) (by decide +kernel)
    exact ⟨by omega, fun l hl => Nat.le_trans (h3 l hl) h⟩
theorem split_words {l : Str} {n : Nat} (h : l.length ≤ n) : Txt.split l spc ≠ [] ∧ (Txt.split l spc).length ≤ n + 1 ∧ ∀ p ∈ Txt.split l spc, p.length ≤ n := by
  obtain ⟨h1, h2, h3⟩ := split_facts l (y := spc) (by decide +kernel) (by decide +kernel)
  exact ⟨h1, by omega, fun p hp => Nat.le_trans (h3 p hp) h⟩
theorem wordsM_get {z : Str} {i : Nat} {l : Str} (h : (linesM z)[i]? = some l) : (wordsM z)[i]? = some (Txt.split l spc) := by
  unfold wordsM
  rw [List.getElem?_map, h]
  rfl
theorem rd_small {st : RdS} {i : Nat} (h : RdOk st i) (hi : i ≤ 3500) : ∀ r ∈ rdRows st, SmallRow r := fun r hr => by
  obtain ⟨a, b, c⟩ := h.row r hr
  exact ⟨by omega, by omega, by omega⟩
/-! ### the law's own look at rows -/
def begun28 (st : RdS) : Bool := st.isSome
def stepped28 : RdS → Bool
  | none => false
  | some (_, r) => !r.steps.isEmpty
theorem t_part (st : RdS) (z a b : Str) : take1 st ["part", z, a, b] = if (isNameM z && (isNum a && isNum b)) = true then some (rd1 st (.part z (numM a) (numM b))) else none := by
  by_cases c : isNameM z = true ∧ isNum a = true ∧ isNum b = true
  · have e : tagM ["part", z, a, b] = some (.part z (numM a) (numM b)) := if_pos ⟨rfl, c⟩
    unfold take1
    rw [e, c.1, c.2.1, c.2.2]
    rfl
  · have e : tagM ["part", z, a, b] = none := if_neg fun h => c h.2
    unfold take1
    rw [e, if_neg (by simpa using c)]
    rfl
theorem b_part (st : RdS) (z : Str) (i j : Int) : begun28 (rd1 st (.part z i j)) = true ∧ stepped28 (rd1 st (.part z i j)) = false := by
  cases st <;> exact ⟨rfl, rfl⟩
theorem t_need (st : RdS) (x y : Str) : take1 st ["need", x, y] = if (begun28 st && (!stepped28 st && (isNameM x && isNum y))) = true then some (rd1 st (.need x (numM y))) else none := by
  by_cases c : isNameM x = true ∧ isNum y = true
  · have e : tagM ["need", x, y] = some (.need x (numM y)) := if_pos ⟨rfl, c⟩
    unfold take1
    rw [e, c.1, c.2, Option.bind_some]
    cases st with
    | none => rfl
    | some w =>
      obtain ⟨qs, r⟩ := w
      show (if r.steps.isEmpty = true then _ else _) = if (true && (!(!r.steps.isEmpty) && (true && true))) = true then _ else _
      cases r.steps.isEmpty <;> rfl
  · have e : tagM ["need", x, y] = none := by
      show (if ("need" : Str) = "need" ∧ isNameM x = true ∧ isNum y = true then some (Tg.need x (numM y)) else if ("need" : Str) = "step" ∧ isNum x = true ∧ isNum y = true then some (.step (numM x) (numM y)) else none) = _
      rw [if_neg fun h => c h.2]
      exact if_neg fun h => absurd h.1 (by decide +kernel)
    unfold take1
    rw [e, if_neg (fun h => c (by
      simp only [Bool.and_eq_true] at h
      exact h.2.2))]
    rfl
theorem b_need (st : RdS) (z : Str) (i : Int) : begun28 (rd1 st (.need z i)) = begun28 st ∧ stepped28 (rd1 st (.need z i)) = stepped28 st := by
  cases st <;> exact ⟨rfl, rfl⟩
theorem t_step (st : RdS) (x y : Str) : take1 st ["step", x, y] = if (begun28 st && (isNum x && isNum y)) = true then some (rd1 st (.step (numM x) (numM y))) else none := by
  have hns : ¬ (("step" : Str) = "need" ∧ isNameM x = true ∧ isNum y = true) := fun z => absurd z.1 (by decide +kernel)
  by_cases c : isNum x = true ∧ isNum y = true
  · have e : tagM ["step", x, y] = some (.step (numM x) (numM y)) := by
      show (if ("step" : Str) = "need" ∧ isNameM x = true ∧ isNum y = true then some (Tg.need x (numM y)) else if ("step" : Str) = "step" ∧ isNum x = true ∧ isNum y = true then some (.step (numM x) (numM y)) else none) = _
      rw [if_neg hns]
      exact if_pos ⟨rfl, c⟩
    unfold take1
    rw [e, c.1, c.2, Option.bind_some]
    cases st <;> rfl
  · have e : tagM ["step", x, y] = none := by
      show (if ("step" : Str) = "need" ∧ isNameM x = true ∧ isNum y = true then some (Tg.need x (numM y)) else if ("step" : Str) = "step" ∧ isNum x = true ∧ isNum y = true then some (.step (numM x) (numM y)) else none) = _
      rw [if_neg hns]
      exact if_neg fun h => c h.2
    unfold take1
    rw [e, if_neg (fun h => c (by
      simp only [Bool.and_eq_true] at h
      exact h.2))]
    rfl
theorem b_step {st : RdS} (h : begun28 st = true) (i j : Int) : begun28 (rd1 st (.step i j)) = true ∧ stepped28 (rd1 st (.step i j)) = true := by
  cases st with
  | none => cases h
  | some w =>
    obtain ⟨qs, r⟩ := w
    refine ⟨rfl, ?_⟩
    show (!(r.steps ++ [(i, j)]).isEmpty) = true
    cases r.steps <;> rfl
theorem t_other {w0 : Str} {rest : List Str} (st : RdS) (h1 : ¬ (w0 = "part" ∧ rest.length = 3)) (h2 : ¬ (w0 = "need" ∧ rest.length = 2)) (h3 : ¬ (w0 = "step" ∧ rest.length = 2)) : take1 st (w0 :: rest) = none := by
  have e : tagM (w0 :: rest) = none := by
    match rest with
    | [] => rfl
    | [a] => rfl
    | [a, b] =>
      show (if w0 = "need" ∧ isNameM a = true ∧ isNum b = true then some (Tg.need a (numM b)) else if w0 = "step" ∧ isNum a = true ∧ isNum b = true then some (.step (numM a) (numM b)) else none) = _
      rw [if_neg (fun z => h2 ⟨z.1, rfl⟩)]
      exact if_neg fun z => h3 ⟨z.1, rfl⟩
    | [a, b, c] => exact if_neg fun z => h1 ⟨z.1, rfl⟩
    | _ :: _ :: _ :: _ :: _ => rfl
  unfold take1
  rw [e]
  rfl
end PM

/-! k28: the law's texts -/
namespace PM
open PySem L2 WK
def SmallT (l : List Str) : Prop := l.length ≤ 112 ∧ ∀ x ∈ l, x.length ≤ 20
theorem sum_le {l : List Str} {n : Nat} (h : ∀ x ∈ l, x.length ≤ n) : (l.map (·.length)).sum ≤ l.length * n := by
  induction l with
  | nil => exact Nat.zero_le _
  | cons a l ih =>
    have h1 := h a (.head _)
    have h2 := ih fun x hx => h x (.tail _ hx)
    rw [List.map_cons, List.sum_cons, List.length_cons, Nat.add_mul, Nat.one_mul]
    omega
theorem SmallT.sum {l : List Str} (h : SmallT l) : (l.map (·.length)).sum + l.length * nlS.length ≤ 2352 := by
  have h1 := sum_le h.2
  have h2 := h.1
  rw [show nlS.length = 1 from rfl]
  omega
theorem SmallT.join {l : List Str} (h : SmallT l) : (Txt.join nlS l).length ≤ 2352 := by
  have h1 := StrLaws.join_length_le nlS l
  rw [← StrLaws.glued_eq_join] at h1
  change (Txt.join nlS l).length ≤ _ at h1
  have h2 := h.sum
  omega
def odd28 : List Str := ["", "part a 1", "part A 1 0", "part abcdefghi 1 0", "part a 100 0", "part a 01 0", "part a -1 0", "need a 1", "step 0 1", "step 0", "step 0 1 ", " step 0 1", "step 00 1", "need a", "need 1 a", "go", "part zz 1 0"]
theorem odd28_len : odd28.all (fun z => decide (z.length ≤ 20)) = true := by decide +kernel
/-- the rows of a book's text -/
theorem book_rows {rs : List PRow} (G : GoodBook rs) (hne : rs ≠ []) (h6 : rs.length ≤ 6) : ∃ ls : List Str, Txt.split (textOf rs) nlS = ls ∧ 1 ≤ ls.length ∧ ls.length ≤ 108 ∧ ∀ x ∈ ls, x.length ≤ 20 := by
  refine ⟨(bookTags rs).map Tg.line, by rw [text_tags, split_text (bookTags_ne hne) G.tags], ?_, ?_, fun x hx => ?_⟩
  · rw [List.length_map]
    exact List.length_pos_iff.mpr (bookTags_ne hne)
  · rw [book_lines]
    have := flat_len (rs := rs) G.lines18
    omega
  · obtain ⟨t, ht, rfl⟩ := List.mem_map.mp hx
    exact G.tag_len t ht
theorem wordsM_join {ts : List Tg} (hne : ts ≠ []) (h : ∀ t ∈ ts, t.ok) : wordsM (Txt.join nlS (ts.map Tg.line)) = ts.map Tg.words := by
  unfold wordsM linesM
  rw [if_neg (text_ne hne), split_text hne h, List.map_map]
  exact List.map_congr_left fun t ht => split_line (h t ht)
def ts1 : List Tg := [.part "a" 0 0]
def ts2 : List Tg := [.part "a" 1 0, .part "b" 1 31]
theorem ts1_ok : ∀ t ∈ ts1, t.ok := by
  intro t ht
  obtain rfl := List.mem_singleton.mp ht
  exact ⟨by decide +kernel, by decide, by decide⟩
theorem ts2_ok : ∀ t ∈ ts2, t.ok := by
  intro t ht
  rcases List.mem_cons.mp ht with rfl | ht
  · exact ⟨by decide +kernel, by decide, by decide⟩
  · obtain rfl := List.mem_singleton.mp ht
    exact ⟨by decide +kernel, by decide, by decide⟩
theorem text1 : ("part a 0 0" : Str) = Txt.join nlS (ts1.map Tg.line) := by decide +kernel
theorem text2 : ("part a 1 0\npart b 1 31" : Str) = Txt.join nlS (ts2.map Tg.line) := by decide +kernel
theorem after_tags : ∀ (ts : List Tg) (st : RdS), (∀ t ∈ ts, t.ok) → (∀ t ∈ ts, ∃ z i j, t = .part z i j) → (ts.map Tg.words).foldl (fun s ws => s.bind fun st => take1 st ws) (some st) = some (ts.foldl rd1 st)
  | [], st, _, _ => rfl
  | t :: ts, st, h, hp => by
    obtain ⟨z, i, j, rfl⟩ := hp _ (.head _)
    obtain ⟨h1, h2, h3⟩ := h _ (.head _)
    have e : take1 st (Tg.words (.part z i j)) = some (rd1 st (.part z i j)) := by
      show take1 st ["part", z, numS i, numS j] = _
      rw [t_part, h1, isNum_numS h2.1 h2.2, isNum_numS h3.1 h3.2, numM_numS h2.1 h2.2, numM_numS h3.1 h3.2]
      rfl
    rw [List.map_cons, List.foldl_cons, List.foldl_cons, Option.bind_some, e]
    exact after_tags ts _ (fun t ht => h t (.tail _ ht)) fun t ht => hp t (.tail _ ht)
def rs1 : List PRow := [⟨"a", [], [], 0, 0⟩]
def rs2 : List PRow := [⟨"a", [], [], 1, 0⟩, ⟨"b", [], [], 1, 31⟩]
theorem read1 : ∃ st, after (wordsM "part a 0 0") = some st ∧ rdRows st = rs1 := by
  rw [text1, wordsM_join (ts := ts1) (List.cons_ne_nil _ _) ts1_ok]
  exact ⟨_, after_tags ts1 none ts1_ok (fun t ht => ⟨_, _, _, List.mem_singleton.mp ht⟩), rfl⟩
theorem read2 : ∃ st, after (wordsM "part a 1 0\npart b 1 31") = some st ∧ rdRows st = rs2 := by
  rw [text2, wordsM_join (ts := ts2) (List.cons_ne_nil _ _) ts2_ok]
  refine ⟨_, after_tags ts2 none ts2_ok (fun t ht => ?_), rfl⟩
  rcases List.mem_cons.mp ht with rfl | ht
  · exact ⟨_, _, _, rfl⟩
  · exact ⟨_, _, _, List.mem_singleton.mp ht⟩
theorem rs1_bad : BadAt rs1 0 ⟨"a", [], [], 0, 0⟩ := ⟨rfl, GoodBook.nil, ⟨by decide +kernel, by decide, by decide⟩, .inr (.inl fun R => absurd R.lot.1 (by decide))⟩
theorem rs2_bad : BadAt rs2 1 ⟨"b", [], [], 1, 31⟩ := ⟨rfl, goodB_book (by decide +kernel), ⟨by decide +kernel, by decide, by decide⟩, .inr (.inl fun R => absurd R.lead.2 (by decide))⟩
/-- no text fails at two rows, and none that fails can be read -/
theorem fail_one {ls : List (List Str)} {k : Nat} (h : FailAt ls k) : ∀ n, k < n → after (ls.take n) = none
  | 0, hn => absurd hn (Nat.not_lt_zero _)
  | n + 1, hn => by
    obtain ⟨st, ws, h1, h2, h3⟩ := h
    by_cases hk : k = n
    · subst hk
      rw [after_take h1, h2]
      exact h3
    · have ih := fail_one ⟨st, ws, h1, h2, h3⟩ n (by omega)
      cases e : ls[n]? with
      | none => rw [List.take_add_one, e, Option.toList_none, List.append_nil]; exact ih
      | some ws' => rw [after_take e, ih]; rfl
theorem fail_not {ls : List (List Str)} {k : Nat} (h : FailAt ls k) {st : RdS} (h2 : after ls = some st) : False := by
  have := fail_one h (ls.length + k + 1) (by omega)
  rw [List.take_of_length_le (by omega), h2] at this
  cases this
end PM
namespace PM
open PySem L2 WK
theorem fail_uniq {ls : List (List Str)} {k k' : Nat} (h : FailAt ls k) (h' : FailAt ls k') : k = k' := by
  have key : ∀ {a b : Nat}, FailAt ls a → FailAt ls b → ¬ a < b := fun ha hb hlt => by
    have := fail_one ha _ hlt
    obtain ⟨st, ws, _, h2, _⟩ := hb
    rw [this] at h2
    cases h2
  have h1 := key h h'
  have h2 := key h' h
  omega
theorem bad_not {rs : List PRow} (G : GoodBook rs) {a : Nat} {r : PRow} (BA : BadAt rs a r) : False := by
  have h1 := BA.len
  have h2 := G.len
  rcases BA.bad with b | b | ⟨_, b2⟩
  · omega
  · exact b (G.row a r BA.get)
  · have hst := ledOf_take BA.get
    have hm := ledOf_sub (rs := rs) (a + 1) (r.name, ledTo ((ledOf (rs.take a)).map (·.1) ++ [r.name]) (ledOf (rs.take a)) r.needs) (by rw [hst]; exact List.mem_append_right _ (.head _))
    have := G.led _ hm
    rw [ledOf_names] at this
    dsimp only at this
    omega
theorem bad_uniq {rs : List PRow} {a b : Nat} {r r' : PRow} (h : BadAt rs a r) (h' : BadAt rs b r') : a = b := by
  have key : ∀ {a b : Nat} {r r' : PRow}, BadAt rs a r → BadAt rs b r' → ¬ a < b := fun {a b r r'} ha hb hlt => by
    have e : (rs.take b).take a = rs.take a := by rw [List.take_take, Nat.min_eq_left (Nat.le_of_lt hlt)]
    exact bad_not hb.good (a := a) (r := r) ⟨by rw [List.getElem?_take_of_lt hlt]; exact ha.get, by rw [e]; exact ha.good, ha.small, by rw [e]; exact ha.bad⟩
  have h1 := key h h'
  have h2 := key h' h
  omega
theorem cut_to_len (z : Str) (s : Nat) : (L2.cutS z none (some (s : Int))).length ≤ s := by
  have h : (L2.cutS z none (some (s : Int))).length = ((z.cps.toList.drop (HT.sIx z.length 0 none)).take (HT.sIx z.length z.length (some (s : Int)) - HT.sIx z.length 0 none)).length := by
    unfold L2.cutS Str.length
    simp
  have h2 : HT.sIx z.length z.length (some (s : Int)) ≤ s := by
    rw [HT.sIx_nat]
    exact Nat.min_le_left _ _
  rw [h, List.length_take]
  omega
theorem cut_from_len (z : Str) (s : Nat) : (L2.cutS z (some (s : Int)) none).length ≤ z.length - s := by
  have h : (L2.cutS z (some (s : Int)) none).length = ((z.cps.toList.drop (HT.sIx z.length 0 (some (s : Int)))).take (HT.sIx z.length z.length none - HT.sIx z.length 0 (some (s : Int)))).length := by
    unfold L2.cutS Str.length
    simp
  have h2 : HT.sIx z.length 0 (some (s : Int)) = min s z.length := HT.sIx_nat _ _ _
  rw [h, h2, List.length_take, List.length_drop]
  have : z.cps.toList.length = z.length := Array.length_toList
  omega
end PM
namespace PM
open PySem L2 WK
def S20 (l : List Str) : Prop := ∀ x ∈ l, x.length ≤ 20
theorem S20.take {l : List Str} (h : S20 l) (n : Nat) : S20 (l.take n) := fun x hx => h x (List.mem_of_mem_take hx)
theorem S20.drop {l : List Str} (h : S20 l) (n : Nat) : S20 (l.drop n) := fun x hx => h x (List.mem_of_mem_drop hx)
theorem S20.app {l l' : List Str} (h : S20 l) (h' : S20 l') : S20 (l ++ l') := fun x hx => (List.mem_append.mp hx).elim (h x) (h' x)
theorem S20.rev {l : List Str} (h : S20 l) : S20 l.reverse := fun x hx => h x (List.mem_reverse.mp hx)
theorem S20.one {z : Str} (h : z.length ≤ 20) : S20 [z] := fun x hx => by rw [List.mem_singleton.mp hx]; exact h
end PM

local macro_rules | `(tactic| kts_caughtN) => `(tactic| first
  | with_reducible assumption
  | ((with_reducible refine' WK.Ex.ap ?kx ?ky); (case kx => with_reducible assumption); (case ky => kts_caughtN))
  | ((with_reducible refine' WK.Ex.sqL ?kx ?ky); (case kx => with_reducible assumption); (case ky => kts_caughtN))
  | ((with_reducible refine' WK.Ex.sqT ?kx ?ky); (case kx => with_reducible assumption); (case ky => kts_caughtN))
  | ((with_reducible refine' L2.Dp.up ?kx ?ky); (case kx => with_reducible assumption); (case ky => kts_caughtN))
  | ((with_reducible refine' WK.Dpl.up ?kx ?ky); (case kx => with_reducible assumption); (case ky => kts_caughtN))
  | ((with_reducible refine' L2.DpAll.up ?kx ?ky); (case kx => with_reducible assumption); (case ky => kts_caughtN)))
local macro_rules | `(tactic| nest_cls) => `(tactic| first
  | ((repeat (first
    | with_reducible exact List.Mem.head _
    | with_reducible refine' List.Mem.tail _ ?_
    | with_reducible exact WK.mF
    | with_reducible exact WK.mFl
    | with_reducible exact WK.mFp
    | with_reducible exact WK.mFn
    | ((with_reducible refine' WK.mFpc ?kz); (case kz => with_reducible assumption))
    | ((with_reducible refine' WK.mFpl ?kz); (case kz => with_reducible assumption))
    | ((with_reducible refine' WK.mFpp ?kz); (case kz => with_reducible assumption))
    | ((with_reducible refine' WK.mFpcE ?kz ?ke); (case kz => with_reducible assumption); (case ke => exact rfl))
    | ((with_reducible refine' WK.mFplE ?kz ?ke); (case kz => with_reducible assumption); (case ke => exact rfl))
    | ((with_reducible refine' WK.mFppE ?kz ?ke); (case kz => with_reducible assumption); (case ke => exact rfl))
    | ((with_reducible refine' WK.mFlot ?kz); (case kz => with_reducible assumption))
    | with_reducible exact WK.mW
    | with_reducible exact WK.mWl
    | with_reducible exact WK.mWp
    | with_reducible exact WK.mWb
    | ((with_reducible refine' WK.mWlotA ?kz); (case kz => with_reducible assumption))
    | ((with_reducible refine' WK.mWpcA ?kz); (case kz => with_reducible assumption))
    | ((with_reducible refine' WK.mWpcH ?kz); (case kz => with_reducible assumption)))); done)
  | mem_news
  | ((with_reducible refine' List.Mem.tail _ ?kz); (case kz => nest_cls)))
local macro_rules | `(tactic| kts_caught) => `(tactic| first
  | with_reducible assumption
  | ((with_reducible refine' WK.Ok.mem ?kx ?ky); (case kx => with_reducible assumption); (case ky => nest_cls))
  | ((with_reducible refine' WK.Ok.sqMem ?kx ?ky); (case kx => with_reducible assumption); (case ky => nest_cls))
  | ((with_reducible refine' WK.Ok.sqStay ?kx ?ky); (case kx => with_reducible assumption); (case ky => kts_caughtN))
  | ((with_reducible refine' WK.Ok.sqB ?kx ?ky); (case kx => with_reducible assumption); (case ky => kts_caughtN))
  | ((with_reducible refine' WK.Ok.tqStay ?kx ?ky); (case kx => with_reducible assumption); (case ky => kts_caughtN))
  | ((with_reducible refine' WK.Ok.tqB ?kx ?ky); (case kx => with_reducible assumption); (case ky => kts_caughtN))
  | ((with_reducible refine' WK.Ok.stay ?kx ?ky); (case kx => with_reducible assumption); (case ky => kts_caughtN))
  | ((with_reducible refine' WK.Ok.dp ?kx ?ky); (case kx => with_reducible assumption); (case ky => kts_caughtN))
  | ((with_reducible refine' WK.Ok.rdMem ?kx ?ky); (case kx => with_reducible assumption); (case ky => nest_cls))
  | ((with_reducible refine' WK.Ok.rdMemF ?kx ?ky); (case kx => with_reducible assumption); (case ky => nest_cls))
  | ((with_reducible refine' WK.Ok.rdStayF ?kx ?ky); (case kx => with_reducible assumption); (case ky => kts_caughtN))
  | ((with_reducible refine' WK.Ok.rdStay ?kx ?ky); (case kx => with_reducible assumption); (case ky => kts_caughtN))
  | ((with_reducible refine' WK.Ok.kept ?kx ?ky); (case kx => with_reducible assumption); (case ky => with_reducible assumption))
  | ((with_reducible refine' WK.Ok.keptRd ?kx ?ky); (case kx => with_reducible assumption); (case ky => with_reducible assumption))
  | ((with_reducible refine' WK.Ok.sqKept ?kx ?ky); (case kx => with_reducible assumption); (case ky => with_reducible assumption))
  | ((with_reducible refine' WK.sqAt ?kx); (case kx => with_reducible assumption))
  | ((with_reducible refine' WK.rdAt ?kx); (case kx => kts_caught)))
local macro_rules | `(tactic| nest_room) => `(tactic| first
  | with_reducible assumption
  | with_reducible exact WK.Ex.refl _
  | ((with_reducible refine' WK.Ex.trans ?kx ?ky); (case ky => with_reducible assumption); (case kx => nest_room)))
local macro_rules | `(tactic| nest_fact) => `(tactic| first
  | with_reducible assumption
  | ((with_reducible refine' L2.Dp.up ?kx ?ky); (case ky => with_reducible assumption); (case kx => nest_room))
  | ((with_reducible refine' L2.DpAll.up ?kx ?ky); (case ky => with_reducible assumption); (case kx => nest_room))
  | ((with_reducible refine' WK.Dpl.up ?kx ?ky); (case ky => with_reducible assumption); (case kx => nest_room))
  | ((with_reducible refine' WK.Ex.ap ?kx ?ky); (case ky => with_reducible assumption); (case kx => nest_room))
  | ((with_reducible refine' WK.Ex.sqL ?kx ?ky); (case ky => with_reducible assumption); (case kx => nest_room))
  | ((with_reducible refine' WK.Ex.sqT ?kx ?ky); (case ky => with_reducible assumption); (case kx => nest_room))
  | nest_room)
local macro_rules | `(tactic| tb_start) => `(tactic| with_reducible refine' WK.r_rSub ?_)
local macro_rules | `(tactic| tb_start) => `(tactic| with_reducible refine' WK.r_rAdd ?_)
local macro_rules | `(tactic| tb_start) => `(tactic| with_reducible refine' WK.r_rU ?_)
local macro_rules | `(tactic| tb_start) => `(tactic| with_reducible refine' WK.v_ipSub ?_)
local macro_rules | `(tactic| tb_start) => `(tactic| with_reducible refine' WK.v_ipAdd ?_)
local macro_rules | `(tactic| tb_start) => `(tactic| ((with_reducible refine' WK.v_get2S ?k1 ?_); (case k1 => kts_caught)))
local macro_rules | `(tactic| tb_start) => `(tactic| with_reducible refine' WK.v_min2 ?_)
local macro_rules | `(tactic| tb_start) => `(tactic| with_reducible refine' WK.v_max2 ?_)
local macro_rules | `(tactic| tb_start) => `(tactic| ((with_reducible refine' WK.v_lenT ?k1 ?_); (case k1 => kts_caught)))
local macro_rules | `(tactic| tb_start) => `(tactic| ((with_reducible refine' WK.v_lenL ?k1 ?_); (case k1 => kts_caught)))
local macro_rules | `(tactic| tb_start) => `(tactic| ((with_reducible refine' WK.v_lenDW ?k1 ?k2 ?_); (case k1 => with_reducible assumption); (case k2 => kts_caughtN)))
local macro_rules | `(tactic| tb_start) => `(tactic| ((with_reducible refine' WK.v_lenDT ?k1 ?k2 ?_); (case k1 => with_reducible assumption); (case k2 => kts_caughtN)))
local macro_rules | `(tactic| tb_start) => `(tactic| ((with_reducible refine' WK.v_lenDL ?k1 ?k2 ?_); (case k1 => with_reducible assumption); (case k2 => kts_caughtN)))
local macro_rules | `(tactic| tb_start) => `(tactic| ((with_reducible refine' WK.v_lenS ?k1 ?_); (case k1 => first | with_reducible assumption | (rw [PySem.sizeLine_eq]; omega) | (simp only [PySem.sizeLine_eq]; omega))))
local macro_rules | `(tactic| tb_start) => `(tactic| with_reducible refine' WK.v_intBl ?_)
local macro_rules | `(tactic| tb_start) => `(tactic| ((with_reducible refine' WK.v_ixDS ?k1 ?k2 ?_); (case k1 => kts_caught); (case k2 => with_reducible first | exact WK.wk_needs | exact WK.wk_steps | exact WK.wk_rates | exact WK.wk_lots | exact WK.wk_pieces | exact WK.wk_lost | exact WK.wk_paid | exact WK.wk_book | exact WK.mk_part | exact WK.mk_state | exact WK.mk_at | exact WK.mk_minutes | exact WK.mk_holds | exact WK.mk_client)))
local macro_rules | `(tactic| tb_start) => `(tactic| ((with_reducible refine' WK.v_ixT ?k1 ?k2 ?_); (case k1 => kts_caught); (case k2 => exact rfl)))
local macro_rules | `(tactic| tb_start) => `(tactic| ((with_reducible refine' WK.v_ixL ?k1 ?k2 ?_); (case k1 => kts_caught); (case k2 => exact rfl)))
local macro_rules | `(tactic| tb_start) => `(tactic| ((with_reducible refine' WK.v_notInDS ?k1 ?_); (case k1 => kts_caught)))
local macro_rules | `(tactic| tb_start) => `(tactic| ((with_reducible refine' WK.v_inDS ?k1 ?_); (case k1 => kts_caught)))
local macro_rules | `(tactic| tb_start) => `(tactic| with_reducible refine' WK.v_inSign ?_)
local macro_rules | `(tactic| tb_start) => `(tactic| with_reducible refine' WK.v_neS ?_)
local macro_rules | `(tactic| tb_start) => `(tactic| with_reducible refine' WK.v_neI ?_)
local macro_rules | `(tactic| tb_start) => `(tactic| with_reducible refine' WK.v_eqS ?_)
local macro_rules | `(tactic| tb_start) => `(tactic| with_reducible refine' WK.v_eqI ?_)
local macro_rules | `(tactic| tb_start) => `(tactic| with_reducible refine' WK.v_ge ?_)
local macro_rules | `(tactic| tb_start) => `(tactic| with_reducible refine' WK.v_gt ?_)
local macro_rules | `(tactic| tb_start) => `(tactic| with_reducible refine' WK.v_le ?_)
local macro_rules | `(tactic| tb_start) => `(tactic| with_reducible refine' WK.v_lt ?_)
local macro_rules | `(tactic| tb_start) => `(tactic| ((with_reducible refine' WK.v_pow ?k1 ?_); (case k1 => exact ⟨by decide, by decide, by decide⟩)))
local macro_rules | `(tactic| tb_start) => `(tactic| ((with_reducible refine' WK.v_fdiv ?k1 ?_); (case k1 => first | exact ⟨by decide, by decide⟩ | exact ⟨by omega, by omega⟩ | exact ⟨by simp only [List.length_map]; omega, by simp only [List.length_map]; omega⟩)))
local macro_rules | `(tactic| tb_start) => `(tactic| ((with_reducible refine' WK.v_mod ?k1 ?_); (case k1 => first | decide | omega | (simp only [List.length_map, List.length_append, List.length_cons, List.length_nil, List.length_set]; omega))))
local macro_rules | `(tactic| tb_start) => `(tactic| ((with_reducible refine' WK.v_mul ?k1 ?_); (case k1 => first | exact Or.inr ⟨by decide, by decide⟩ | exact Or.inl ⟨by decide, by decide⟩ | exact Or.inr ⟨by omega, by omega⟩ | exact Or.inl ⟨by omega, by omega⟩)))
local macro_rules | `(tactic| tb_start) => `(tactic| with_reducible refine' WK.v_sub ?_)
local macro_rules | `(tactic| tb_start) => `(tactic| with_reducible refine' WK.v_add ?_)
local macro_rules | `(tactic| tb_start) => `(tactic| with_reducible refine' WK.r_par33 ?_)
local macro_rules | `(tactic| tb_start) => `(tactic| with_reducible refine' WK.r_par2 ?_)
local macro_rules | `(tactic| tb_start) => `(tactic| with_reducible refine' WK.r_gnil ?_)
local macro_rules | `(tactic| tb_start) => `(tactic| with_reducible refine' WK.r_gcons ?_)
local macro_rules | `(tactic| tb_start) => `(tactic| ((with_reducible refine' WK.afdQ ?k1 ?k2 ?k3 ?k4 ?_); (case k1 => kts_caught); (case k2 => with_reducible assumption); (case k3 => with_reducible assumption); (case k4 => exact rfl)))
local macro_rules | `(tactic| tb_start) => `(tactic| with_reducible refine' WK.strQ ?_)
local macro_rules | `(tactic| tb_start) => `(tactic| with_reducible refine' WK.r_in ?_)
local macro_rules | `(tactic| tb_start) => `(tactic| ((with_reducible refine' WK.mthXQ ?k1 ?k2 ?_); (case k1 => kts_caught); (case k2 => exact rfl)))
local macro_rules | `(tactic| tb_start) => `(tactic| ((with_reducible refine' WK.mthQ ?k1 ?k2 ?_); (case k1 => kts_caught); (case k2 => exact rfl)))
local macro_rules | `(tactic| tb_start) => `(tactic| ((with_reducible refine' WK.bmD ?k1 ?_); (case k1 => kts_caught)))
local macro_rules | `(tactic| tb_start) => `(tactic| ((with_reducible refine' WK.bmL ?k1 ?_); (case k1 => kts_caught)))
local macro_rules | `(tactic| tb_start) => `(tactic| with_reducible refine' WK.bmS ?_)
local macro_rules | `(tactic| tb_start) => `(tactic| ((with_reducible refine' WK.fldQ ?k1 ?k2 ?k3 ?k4 ?_); (case k1 => kts_caught); (case k2 => with_reducible assumption); (case k3 => with_reducible assumption); (case k4 => exact rfl)))
local macro_rules | `(tactic| tb_start) => `(tactic| with_reducible refine' WK.r_bl ?_)
local macro_rules | `(tactic| tb_start) => `(tactic| ((with_reducible show ite _ _ _); first
  | (with_reducible refine' WK.ifTT ?_)
  | (with_reducible refine' WK.ifFF ?_)
  | (with_reducible refine' WK.ifNT ?_)
  | (with_reducible refine' WK.ifNF ?_)
  | ((with_reducible refine' WK.ifdT ?k1 ?_); (case k1 => first | with_reducible assumption | omega | (simp only [List.length_map, List.length_append, List.length_cons, List.length_nil, List.length_set]; omega)))
  | ((with_reducible refine' WK.ifdF ?k1 ?_); (case k1 => first | with_reducible assumption | omega | (simp only [List.length_map, List.length_append, List.length_cons, List.length_nil, List.length_set]; omega)))
  | ((with_reducible refine' WK.ifndT ?k1 ?_); (case k1 => first | with_reducible assumption | omega | (simp only [List.length_map, List.length_append, List.length_cons, List.length_nil, List.length_set]; omega)))
  | ((with_reducible refine' WK.ifndF ?k1 ?_); (case k1 => first | with_reducible assumption | omega | (simp only [List.length_map, List.length_append, List.length_cons, List.length_nil, List.length_set]; omega)))))
local macro_rules | `(tactic| tb_start) => `(tactic| with_reducible refine' WK.r_rzT ?_)
local macro_rules | `(tactic| tb_start) => `(tactic| with_reducible refine' WK.r_rzK ?_)
local macro_rules | `(tactic| tb_start) => `(tactic| with_reducible refine' WK.r_augS ?_)
local macro_rules | `(tactic| tb_start) => `(tactic| ((with_reducible refine' WK.r_aug ?hh ?_); (case hh => exact rfl)))
local macro_rules | `(tactic| tb_start) => `(tactic| with_reducible refine' WK.r_par3 ?_)
local macro_rules | `(tactic| tb_start) => `(tactic| with_reducible refine' WK.r_par ?_)
local macro_rules | `(tactic| tb_start) => `(tactic| with_reducible refine' WK.r_afld ?_)
local macro_rules | `(tactic| tb_start) => `(tactic| with_reducible refine' WK.r_sfld ?_)
local macro_rules | `(tactic| tb_start) => `(tactic| with_reducible refine' WK.r_for ?_)
local macro_rules | `(tactic| tb_start) => `(tactic| with_reducible refine' WK.r_retN ?_)
local macro_rules | `(tactic| tb_start) => `(tactic| with_reducible refine' WK.r_pnil ?_)
local macro_rules | `(tactic| tb_start) => `(tactic| with_reducible refine' WK.r_pcons ?_)
local macro_rules | `(tactic| tb_start) => `(tactic| with_reducible refine' WK.r_enumV ?_)
local macro_rules | `(tactic| tb_start) => `(tactic| with_reducible refine' WK.r_str ?_)
local macro_rules | `(tactic| tb_start) => `(tactic| with_reducible refine' WK.r_values ?_)
local macro_rules | `(tactic| tb_start) => `(tactic| with_reducible refine' WK.r_keys ?_)
local macro_rules | `(tactic| tb_start) => `(tactic| with_reducible refine' WK.r_items ?_)
local macro_rules | `(tactic| tb_start) => `(tactic| with_reducible refine' WK.r_val ?_)
local macro_rules | `(tactic| tb_start) => `(tactic| with_reducible refine' WK.r_rng1 ?_)
local macro_rules | `(tactic| tb_start) => `(tactic| with_reducible refine' WK.r_part ?_)
local macro_rules | `(tactic| tb_start) => `(tactic| with_reducible refine' WK.r_nopart ?_)
local macro_rules | `(tactic| tb_start) => `(tactic| with_reducible refine' WK.r_yes ?_)
local macro_rules | `(tactic| tb_start) => `(tactic| with_reducible refine' WK.r_not ?_)
local macro_rules | `(tactic| tb_start) => `(tactic| with_reducible refine' WK.r_or ?_)
local macro_rules | `(tactic| tb_start) => `(tactic| with_reducible refine' WK.r_and ?_)
local macro_rules | `(tactic| tb_start) => `(tactic| with_reducible refine' WK.r_test ?_)
local macro_rules | `(tactic| tb_start) => `(tactic| with_reducible refine' WK.r_B ?_)
local macro_rules | `(tactic| tb_start) => `(tactic| with_reducible refine' WK.r_mthX ?_)
local macro_rules | `(tactic| tb_start) => `(tactic| with_reducible refine' WK.r_fnX ?_)
local macro_rules | `(tactic| tb_start) => `(tactic| with_reducible refine' WK.r_chain ?_)
local macro_rules | `(tactic| tb_start) => `(tactic| with_reducible refine' WK.r_revL ?_)
local macro_rules | `(tactic| tb_start) => `(tactic| with_reducible refine' WK.r_frzA ?_)
local macro_rules | `(tactic| tb_start) => `(tactic| with_reducible refine' WK.r_sumVals ?_)
local macro_rules | `(tactic| tb_start) => `(tactic| with_reducible refine' WK.r_sci ?_)
local macro_rules | `(tactic| tb_start) => `(tactic| with_reducible refine' WK.r_dc ?_)
local macro_rules | `(tactic| tb_start) => `(tactic| with_reducible refine' WK.r_lc ?_)
local macro_rules | `(tactic| tb_start) => `(tactic| with_reducible refine' WK.r_bm0 ?_)
local macro_rules | `(tactic| tb_start) => `(tactic| with_reducible refine' WK.r_bm ?_)
local macro_rules | `(tactic| tb_start) => `(tactic| with_reducible refine' WK.r_mk ?_)
local macro_rules | `(tactic| tb_start) => `(tactic| with_reducible refine' WK.r_notV ?_)
local macro_rules | `(tactic| tb_start) => `(tactic| with_reducible refine' WK.r_orV ?_)
local macro_rules | `(tactic| tb_start) => `(tactic| with_reducible refine' WK.r_andV ?_)
local macro_rules | `(tactic| tb_start) => `(tactic| with_reducible refine' WK.r_if ?_)
local macro_rules | `(tactic| tb_start) => `(tactic| with_reducible refine' WK.r_sl ?_)
local macro_rules | `(tactic| tb_start) => `(tactic| with_reducible refine' WK.r_un ?_)
local macro_rules | `(tactic| tb_start) => `(tactic| with_reducible refine' WK.r_tup ?_)
local macro_rules | `(tactic| tb_start) => `(tactic| with_reducible refine' WK.r_lst ?_)
local macro_rules | `(tactic| tb_start) => `(tactic| with_reducible refine' WK.r_mth ?_)
local macro_rules | `(tactic| tb_start) => `(tactic| with_reducible refine' WK.r_cb ?_)
local macro_rules | `(tactic| tb_start) => `(tactic| with_reducible refine' WK.r_fld ?_)
local macro_rules | `(tactic| tb_start) => `(tactic| with_reducible refine' WK.r_fn ?_)
local macro_rules | `(tactic| tb_start) => `(tactic| with_reducible refine' WK.r_gatt ?_)
local macro_rules | `(tactic| tb_start) => `(tactic| with_reducible refine' WK.r_gsub ?_)
local macro_rules | `(tactic| tb_start) => `(tactic| ((with_reducible show L2.gName _ _ _ _ _); (apply WK.r_nameS); (case h => repeat (first | exact WK.SlotSet.zero | apply WK.SlotSet.succ))))
local macro_rules | `(tactic| tb_start) => `(tactic| with_reducible refine' WK.r_drop ?_)
local macro_rules | `(tactic| tb_start) => `(tactic| with_reducible refine' WK.r_ret ?_)
local macro_rules | `(tactic| tb_start) => `(tactic| with_reducible refine' WK.r_next ?_)
local macro_rules | `(tactic| tb_start) => `(tactic| with_reducible refine' WK.r_ifS ?_)
local macro_rules | `(tactic| tb_start) => `(tactic| with_reducible refine' WK.r_asg ?_)
local macro_rules | `(tactic| tb_start) => `(tactic| with_reducible refine' WK.r_seq ?_)
local macro_rules | `(tactic| tb_start) => `(tactic| with_reducible refine' WK.r_nil ?_)
local macro_rules | `(tactic| tb_start) => `(tactic| with_reducible refine' WK.r_cons ?_)
local macro_rules | `(tactic| tb_start) => `(tactic| with_reducible refine' WK.r_op ?_)
local macro_rules | `(tactic| tb_start) => `(tactic| with_reducible refine' WK.r_c ?_)
local macro_rules | `(tactic| tb_start) => `(tactic| ((with_reducible refine' WK.r_var ?hh ?_); (case hh => exact rfl)))

namespace LW
open PySem PySem.Spec PyProof.Rows L2 WK
def topS (i : Nat) : Stmt := PySem.Challenge.pw_partkin_k28_texts_of_no_book.main.body.getD i (.Pass ⟨0, 0, 0, 0⟩)
abbrev s__law_mix : Stmt := topS 33
abbrev s__law_next : Stmt := topS 34
theorem sc__law_mix : FnScope ["_law_script", "_law_seed", "_law_mixed", "_law_cell"] ["_law_script", "_law_seed"] (defScope s__law_mix) := ⟨rfl, rfl, rfl, by decide +kernel, rfl, by decide +kernel, by decide +kernel⟩
theorem sc__law_next : FnScope ["_law_h", "_law_many", "_law_cell"] ["_law_h", "_law_many"] (defScope s__law_next) := ⟨rfl, rfl, rfl, by decide +kernel, rfl, by decide +kernel, by decide +kernel⟩
/-- the state that is drawn from -/
abbrev hL (p q : Addr) (m : Int) (cs : List Int) (k : Int) : Led := [(p, .lst [.int m, .ref q, .int k]), (q, .lst (cs.map V.int))]
section
variable {P : Program} {w : World} {K : PySem.W.Frag} {mg : Str → Option Value} {base : Heap}
def spMix (K : PySem.W.Frag) : Sp := fun vs H Q _ => ∃ (B : Hp) (a : Addr) (ns : List Int) (seed : Int), vs = [.ref a, .int seed] ∧ Ex B H ∧ SqL K B a (ns.map V.int) ∧ ns.length ≤ 63 ∧ 0 ≤ seed ∧ seed < 2147483647 ∧
  ∀ (m : Int) (p q : Addr) (B' H' : Hp), 0 ≤ m → m < 2147483647 → Ok ⟨B, H, []⟩ B' (hL p q m ns 0) H' → Q (.ref p) H'
theorem ok__law_mix {f : Addr} {fd : FuncData} (F : Fun K "_law_mix" "_law_mix" s__law_mix f fd) (n_list : mg "list" = none) : FnOk P w K mg base CX0 1 f fd ["_law_script", "_law_seed"] (spMix K) := by
  refine F.ok sc__law_mix (fun vs H Q E h => ?_) (fun cdv A outer s H vs Q E hr h => ?_)
  · obtain ⟨B, a, ns, seed, rfl, _⟩ := h
    rfl
  · obtain ⟨B, a, ns, seed, rfl, ex, hs, hl, h0, h1, k⟩ := h
    have S := Ok.start0 ex
    refine with_al (P := P) (w := w) (K := K) hr (fun al => ?_)
    refine ⟨_, (pss_cons (ps_asg (pv 1) (pg_name (i := 2) sc__law_mix.nd rfl (by first | exact Or.inl rfl | exact Or.inr rfl))) (pss_cons (ps_for PassesOwn.never rfl (pi_val al (pv 0)) (pg_name (i := 3) sc__law_mix.nd rfl (by first | exact Or.inl rfl | exact Or.inr rfl)) (pss_one (ps_asg (pe_op (opU al) (pe_op (opU al) (pe_op (opU al) (pe_op (opU al) (pv 2) pe_int) (pe_op (opU al) (pv 3) pe_int)) pe_int) pe_int) (pg_name (i := 2) sc__law_mix.nd rfl (by first | exact Or.inl rfl | exact Or.inr rfl))))) (pss_one (ps_ret (pe_lst (pa_cons (pv 2) (pa_cons (pe_callTy (callU al) (by rfl) n_list b_list (pa_cons (pv 0) pa_nil)) (pa_cons pe_int pa_nil)))))))), ?_⟩
    repeat tb_start
    refine forL (S.sqB hs) (fun i σ H' => ∃ (m : Int) (c : Option V), σ = [some (.ref a), some (.int seed), some (.int m), c] ∧ 0 ≤ m ∧ m < 2147483647 ∧ Ok ⟨B, H, []⟩ B [] H') ?_ ?_ ?_ ?_
    · rintro i σ H1 _ ⟨m, c, rfl, _, _, S1⟩
      exact S1.sqB hs
    · exact ⟨seed, none, rfl, h0, h1, S⟩
    · rintro i x σ H1 hx ⟨m, c, rfl, hm0, hm1, S1⟩
      obtain ⟨z, rfl⟩ : ∃ z, x = V.int z := by
        rw [List.getElem?_map] at hx
        cases e : ns[i]? with
        | none => rw [e] at hx; cases hx
        | some z => rw [e] at hx; exact ⟨z, (Option.some.inj hx).symm⟩
      repeat tb_start
      exact ⟨_, _, rfl, Int.emod_nonneg _ (by decide), Int.emod_lt_of_pos _ (by decide), S1⟩
    · rintro σ H1 ⟨m, c, rfl, hm0, hm1, S1⟩
      repeat tb_start
      refine v_listOf S1 (.inl (S1.sqB hs)) fun q H2 S2 => ?_
      repeat tb_start
      refine new_lst S2 (by simp [sizeLine_eq]) fun p H3 S3 => ?_
      exact k m p q _ _ hm0 hm1 S3
/-- the state behind a draw -/
structure HS (cs : List Int) (kk : Int) : Prop where
  len : cs.length ≤ 63
  pl : 0 ≤ kk
theorem mod_ix (n : Nat) (k : Int) : ∃ j : Nat, j < max 1 n ∧ (k % if (n : Int) > 1 then (n : Int) else 1) = (j : Int) := by
  have h : ∃ m : Nat, m = max 1 n ∧ (if (n : Int) > 1 then (n : Int) else 1) = (m : Int) := by
    refine ⟨max 1 n, rfl, ?_⟩
    split <;> omega
  obtain ⟨m, hm, e⟩ := h
  rw [e]
  have h0 : 0 ≤ k % (m : Int) := Int.emod_nonneg _ (by omega)
  have h1 : k % (m : Int) < m := Int.emod_lt_of_pos _ (by omega)
  exact ⟨(k % (m : Int)).toNat, by omega, by omega⟩
theorem item_of (cs : List Int) (j : Nat) (h : j < cs.length) : atI (List.map V.int cs) (j : Int) = some (.int (cs.getD j 0)) := by
  refine atI_nat ?_
  rw [List.getElem?_map, List.getD_eq_getElem?_getD, List.getElem?_eq_getElem h]
  rfl
def spNext : Sp := fun vs H Q _ => ∃ (B : Hp) (p q : Addr) (m : Int) (cs : List Int) (kk many : Int), vs = [.ref p, .int many] ∧ Ok ⟨B, H, [p, q]⟩ B (hL p q m cs kk) H ∧ HS cs kk ∧ 0 < many ∧ many < 1073741824 ∧
  ∀ (r m' : Int) (cs' : List Int) (kk' : Int) (H' : Hp), 0 ≤ r → r < many → HS cs' kk' → Ok ⟨B, H, [p, q]⟩ B (hL p q m' cs' kk') H' → Q (.int r) H'
theorem ok__law_next {f : Addr} {fd : FuncData} (F : Fun K "_law_next" "_law_next" s__law_next f fd) (n_max : mg "max" = none) (n_len : mg "len" = none) : FnOk P w K mg base CX0 1 f fd ["_law_h", "_law_many"] spNext := by
  refine F.ok sc__law_next (fun vs H Q E h => ?_) (fun cdv A outer s H vs Q E hr h => ?_)
  · obtain ⟨B, p, q, m, cs, kk, many, rfl, _⟩ := h
    rfl
  · obtain ⟨B, p, q, m, cs, kk, many, rfl, S, hS, h0, h1, k⟩ := h
    refine with_al (P := P) (w := w) (K := K) hr (fun al => ?_)
    refine ⟨_, (pss_cons (ps_asg (pe_ix (ixU al) (pe_op (opU al) (pe_ix (ixU al) (pv 0) pe_int (fun _ _ => rfl)) (pe_lst (pa_cons pe_int pa_nil))) (pe_op (opU al) (pe_ix (ixU al) (pv 0) pe_int (fun _ _ => rfl)) (pe_callB (callU al) (by rfl) n_max b_max (pa_cons pe_int (pa_cons (pe_callB (callU al) (by rfl) n_len b_len (pa_cons (pe_ix (ixU al) (pv 0) pe_int (fun _ _ => rfl)) pa_nil)) pa_nil)))) (fun _ _ => rfl)) (pg_name (i := 2) sc__law_next.nd rfl (by first | exact Or.inl rfl | exact Or.inr rfl))) (pss_cons (ps_if (pt_cmpR (opU al) (pv 2) (pe_op (opU al) pe_int pe_int) (nomark _)) (pss_cons (ps_asg (pe_op (opU al) (pv 2) (pv 1)) (pg_sub (pe_ix (ixU al) (pv 0) pe_int (fun _ _ => rfl)) (pe_op (opU al) (pe_ix (ixU al) (pv 0) pe_int (fun _ _ => rfl)) (pe_callB (callU al) (by rfl) n_len b_len (pa_cons (pe_ix (ixU al) (pv 0) pe_int (fun _ _ => rfl)) pa_nil))) (setU al))) (pss_one (ps_ret (pe_op (opU al) (pv 2) (pv 1))))) pss_nil) (pss_cons (ps_asg (pe_op (opU al) (pe_op (opU al) (pe_op (opU al) (pe_op (opU al) (pe_ix (ixU al) (pv 0) pe_int (fun _ _ => rfl)) pe_int) (pe_op (opU al) (pv 2) pe_int)) pe_int) pe_int) (pg_sub (pv 0) pe_int (setU al))) (pss_cons (ps_asg (pe_op (opU al) (pe_ix (ixU al) (pv 0) pe_int (fun _ _ => rfl)) pe_int) (pg_sub (pv 0) pe_int (setU al))) (pss_one (ps_ret (pe_op (opU al) (pe_op (opU al) (pe_ix (ixU al) (pv 0) pe_int (fun _ _ => rfl)) pe_int) (pv 1)))))))), ?_⟩
    repeat tb_start
    refine new_lst S (by decide) fun z H1 S1 => ?_
    repeat tb_start
    refine v_cat S1 (by kts_caught) (by kts_caught) ?_ fun z2 H2 S2 => ?_
    · have := hS.len
      rw [List.length_map, sizeLine_eq]
      show cs.length + 1 ≤ _
      omega
    repeat tb_start
    obtain ⟨c, hc, hc0⟩ : ∃ c : Int, atI (List.map V.int cs ++ [V.int 0]) (kk % if ((List.map V.int cs).length : Int) > 1 then ((List.map V.int cs).length : Int) else 1) = some (.int c) ∧ (cs = [] → c = 0) := by
      obtain ⟨j, hj, e⟩ := mod_ix cs.length kk
      refine ⟨(cs ++ [0]).getD j 0, ?_, fun z => ?_⟩
      · rw [List.length_map, e]
        have := item_of (cs ++ [0]) j (by simp; omega)
        rw [List.map_append] at this
        exact this
      · subst z
        have : j = 0 := by have := hj; simp at this; omega
        subst this
        rfl
    refine v_ixL (by kts_caught) hc ?_
    have S3 : Ok ⟨B, H, [p, q]⟩ B (hL p q m cs kk) H2 := S2.drop.drop
    repeat tb_start
    refine ifd (fun hbig => ?_) (fun hbig => ?_)
    · have hne : 0 < cs.length := by
        cases cs with
        | nil => rw [hc0 rfl] at hbig; exact absurd hbig (by decide)
        | cons _ _ => simp
      repeat tb_start
      obtain ⟨j, hj, ej⟩ : ∃ j : Nat, j < cs.length ∧ kk % ((List.map V.int cs).length : Int) = (j : Int) := by
        have h0 : 0 ≤ kk % (cs.length : Int) := Int.emod_nonneg _ (by omega)
        have h1 : kk % (cs.length : Int) < cs.length := Int.emod_lt_of_pos _ (by omega)
        exact ⟨(kk % (cs.length : Int)).toNat, by omega, by rw [List.length_map]; omega⟩
      refine v_setLN 1 S3 rfl (ixN_of ej (by rw [List.length_map]; exact hj)) fun H4 S4 => ?_
      repeat tb_start
      rw [← List.map_set] at S4
      exact k _ m (cs.set j (c / many)) kk _ (Int.emod_nonneg _ (by omega)) (Int.emod_lt_of_pos _ h0) ⟨by rw [List.length_set]; exact hS.len, hS.pl⟩ S4
    · repeat tb_start
      refine v_setLN 0 S3 rfl rfl fun H4 S4 => ?_
      repeat tb_start
      refine v_setLN 0 S4 rfl rfl fun H5 S5 => ?_
      repeat tb_start
      exact k _ _ cs (kk + 1) _ (Int.emod_nonneg _ (by omega)) (Int.emod_lt_of_pos _ h0) ⟨hS.len, by have := hS.pl; omega⟩ S5
end
end LW

namespace LW
open PySem PySem.Spec PyProof.Rows L2 WK PM
abbrev s_is_name : Stmt := topS 21
theorem sc_is_name : FnScope ["word", "sign"] ["word"] (defScope s_is_name) := ⟨rfl, rfl, rfl, by decide +kernel, rfl, by decide +kernel, by decide +kernel⟩
section
variable {P : Program} {w : World} {K : PySem.W.Frag} {mg : Str → Option Value} {base : Heap}
def spIsName : Sp := fun vs H Q _ => ∃ (B : Hp) (z : Str), vs = [.str z] ∧ Ex B H ∧ z.length ≤ 3500 ∧ ∀ B' H', Ok ⟨B, H, []⟩ B' [] H' → Q (.bl (isNameM z)) H'
theorem ok_is_name {f : Addr} {fd : FuncData} (F : Fun K "is_name" "is_name" s_is_name f fd) (n_len : mg "len" = none) (n_all : mg "all" = none) (c_MOST_SIGNS : GlI mg "MOST_SIGNS" 8) (c_LETTERS : GlS mg "LETTERS" letters) : FnOk P w K mg base CX0 1 f fd ["word"] spIsName := by
  refine F.ok sc_is_name (fun vs H Q E h => ?_) (fun cdv A outer s H vs Q E hr h => ?_)
  · obtain ⟨B, z, rfl, _⟩ := h
    rfl
  · obtain ⟨B, z, rfl, ex, hl, k⟩ := h
    have S := Ok.start0 ex
    refine with_al (P := P) (w := w) (K := K) hr (fun al => ?_)
    refine ⟨_, (pss_one (ps_ret (pe_and (pe_chain (opU al) (opU al) pe_int (pe_callB (callU al) (by rfl) n_len b_len (pa_cons (pv 0) pa_nil)) (pe_gi c_MOST_SIGNS rfl)) (pe_one (pe_callB (callU al) (by rfl) n_all b_all (pa_cons (pe_lc (own := [("sign", 1)]) al.calm sc_is_name.nd (pi_str (pv 0)) (blkOk_by (own := [("sign", 1)]) (N := ["word", "sign"]) (sc := (defScope s_is_name)) (by decide +kernel)) (fun _ _ _ _ _ => (pg_name (i := 1) sc_is_name.nd rfl (by first | exact Or.inl rfl | exact Or.inr rfl))) (fun _ _ _ _ _ => pts_nil) (fun _ _ _ _ _ => (pe_cmpR (opU al) (pv 1) (pe_gs c_LETTERS rfl) rfl))) pa_nil)))))), ?_⟩
    repeat tb_start
    refine ifd (fun c1 => ?_) (fun c1 => ?_)
    · repeat tb_start
      refine ifd (fun c2 => ?_) (fun c2 => ?_)
      · repeat tb_start
        have hz : z.cps.toList.length ≤ 3500 := hl
        refine lcD src_str S (fun i acc B' L' => L' = [] ∧ acc = (z.cps.toList.take i).map (fun c => V.bl (decide (c ∈ letters.cps.toList))) ∧ i ≤ 3500) ⟨rfl, rfl, by omega⟩ (fun _ _ _ _ _ _ _ => True.intro) ?_ ?_
        · rintro i c x acc B0 B1 L D H1 hc ⟨rfl, rfl, hi⟩ e S1 rfl
          repeat tb_start
          refine ⟨rfl, ?_⟩
          repeat tb_start
          have hi' : i < z.cps.toList.length := (List.getElem?_eq_some_iff.mp hc).1
          refine Acc.mk S1 (by rw [sizeLine_eq, List.length_map, List.length_take]; omega) ⟨rfl, ?_, by omega⟩
          rw [List.take_add_one, hc, List.map_append]
          rfl
        · rintro acc B1 L D H1 ⟨rfl, rfl, hi⟩ S1
          repeat tb_start
          refine v_all (bs := z.cps.toList.map fun c => decide (c ∈ letters.cps.toList)) (by rw [List.map_map]; rw [List.take_length] at S1; exact S1.sqMem (.head _)) ?_
          have e : isNameM z = (z.cps.toList.map fun c => decide (c ∈ letters.cps.toList)).all id := by
            unfold isNameM
            rw [decide_eq_true c1, decide_eq_true c2, Bool.true_and, Bool.true_and]
          repeat tb_start
          rw [← e]
          exact k _ _ S1.drop
      · repeat tb_start
        have e : isNameM z = false := by
          unfold isNameM
          rw [decide_eq_false c2, Bool.false_and, Bool.and_false]
        have q := k _ _ S
        rw [e] at q
        exact q
    · repeat tb_start
      have e : isNameM z = false := by
        unfold isNameM
        rw [decide_eq_false c1, Bool.false_and]
      have q := k _ _ S
      rw [e] at q
      exact q
end
end LW

namespace LW
open PySem PySem.Spec PyProof.Rows L2 WK PM
abbrev s_Parts_is_row : Stmt := inClass (topS 22) 1
theorem sc_Parts_is_row : FnScope ["self", "row", "name", "needs", "steps", "lot", "lead", "others", "part", "many", "machine", "minutes"] ["self", "row"] (defScope s_Parts_is_row) := ⟨rfl, rfl, rfl, by decide +kernel, rfl, by decide +kernel, by decide +kernel⟩
def spIsRow (K : PySem.W.Frag) (CP : Addr) : Sp := fun vs H Q _ => ∃ (B : Hp) (p dx a l : Addr) (v : V) (kvs : List (Key × V)) (names : List Str) (r : PRow), vs = [.ref p, v] ∧ Ex B H ∧ H p = some (.ins CP dx (fldsP a l)) ∧ Rd H a (.dK kvs) ∧ kvs.map (·.1) = names.map Sum.inr ∧
  Dp K B v (encRow r) ∧ GoodRow names r ∧ names.length ≤ 12 ∧ ∀ B' H', Ok ⟨B, H, []⟩ B' [] H' → Q (.bl true) H'
section
variable {P : Program} {w : World} {K : PySem.W.Frag} {mg : Str → Option Value} {base : Heap}
theorem ok_is_row {f CP : Addr} {fd : FuncData} (F : Fun K "is_row" "Parts.is_row" s_Parts_is_row f fd) (G_is_name : FnG P w K mg base 1 "is_name" ["word"] spIsName) (clP : Cls K CP) (nRows : NoAttr K CP "rows")
    (n_len : mg "len" = none) (n_all : mg "all" = none) (n_set : mg "set" = none) (c_MOST_LOT : GlI mg "MOST_LOT" 99) (c_MOST_LEAD : GlI mg "MOST_LEAD" 30) (c_MOST_NEED : GlI mg "MOST_NEED" 9) (c_MOST_STEPS : GlI mg "MOST_STEPS" 5)
    (c_MACHINES : GlI mg "MACHINES" 6) (c_MOST_MINUTES : GlI mg "MOST_MINUTES" 99) : FnOk P w K mg base CX0 2 f fd ["self", "row"] (spIsRow K CP) := by
  refine F.ok sc_Parts_is_row (fun vs H Q E h => ?_) (fun cdv A outer s H vs Q E hr h => ?_)
  · obtain ⟨B, p, dx, a, l, v, kvs, names, r, rfl, _⟩ := h
    rfl
  · obtain ⟨B, p, dx, a, l, v, kvs, names, r, rfl, ex, hp, ha, hk, hv, G, hn, k⟩ := h
    have S := Ok.start0 ex
    refine with_al (P := P) (w := w) (K := K) hr (fun al => ?_)
    refine ⟨_, (pss_cons (ps_asg (pv 1) (pg_tupU (n := 5) K (pgs_cons (pg_name (i := 2) sc_Parts_is_row.nd rfl (by first | exact Or.inl rfl | exact Or.inr rfl)) (pgs_cons (pg_name (i := 3) sc_Parts_is_row.nd rfl (by first | exact Or.inl rfl | exact Or.inr rfl)) (pgs_cons (pg_name (i := 4) sc_Parts_is_row.nd rfl (by first | exact Or.inl rfl | exact Or.inr rfl)) (pgs_cons (pg_name (i := 5) sc_Parts_is_row.nd rfl (by first | exact Or.inl rfl | exact Or.inr rfl)) (pgs_cons (pg_name (i := 6) sc_Parts_is_row.nd rfl (by first | exact Or.inl rfl | exact Or.inr rfl)) pgs_nil))))))) (pss_cons (ps_if (PW.pt (pw_or (pt_not (pt_val (pe_fn G_is_name (hr.mono (by first | decide | omega)) rfl (pa_cons (pv 2) pa_nil)))) (pw_or (pt_cmpR (opU al) (pv 2) (pe_fldU K (pv 0) rfl) rfl) (pw_or (pt_not (pt_chain (opU al) (opU al) pe_int (pv 5) (pe_gi c_MOST_LOT rfl))) (pw_or1 (pt_not (pt_chain (opU al) (opU al) pe_int (pv 6) (pe_gi c_MOST_LEAD rfl)))))))) (pss_one (ps_ret pe_bl)) pss_nil) (pss_cons (ps_setLc (i := 7) (own := [("part", 8), ("many", 9)]) al.calm sc_Parts_is_row.nd rfl rfl (sw_true rfl rfl rfl (by decide +kernel)) (pi_val al (pv 3)) (blkOk_by (own := [("part", 8), ("many", 9)]) (N := ["self", "row", "name", "needs", "steps", "lot", "lead", "others", "part", "many", "machine", "minutes"]) (sc := (defScope s_Parts_is_row)) (by decide +kernel)) (fun _ _ _ _ _ => (pg_tupU (n := 2) K (pgs_cons (pg_name (i := 8) sc_Parts_is_row.nd rfl (by first | exact Or.inl rfl | exact Or.inr rfl)) (pgs_cons (pg_name (i := 9) sc_Parts_is_row.nd rfl (by first | exact Or.inl rfl | exact Or.inr rfl)) pgs_nil)))) (fun _ _ _ _ _ => pts_nil) (fun _ _ _ _ _ => (pv 8))) (pss_cons (ps_if (PW.pt (pw_or (pt_cmpR (opU al) (pe_callB (callU al) (by rfl) n_len b_len (pa_cons (pe_callTy (callU al) (by rfl) n_set b_set (pa_cons (pv 7) pa_nil)) pa_nil)) (pe_callB (callU al) (by rfl) n_len b_len (pa_cons (pv 7) pa_nil)) (nomark _)) (pw_or1 (pt_not (pt_val (pe_callB (callU al) (by rfl) n_all b_all (pa_cons (pe_lc (own := [("part", 8)]) al.calm sc_Parts_is_row.nd (pi_val al (pv 7)) (blkOk_by (own := [("part", 8)]) (N := ["self", "row", "name", "needs", "steps", "lot", "lead", "others", "part", "many", "machine", "minutes"]) (sc := (defScope s_Parts_is_row)) (by decide +kernel)) (fun _ _ _ _ _ => (pg_name (i := 8) sc_Parts_is_row.nd rfl (by first | exact Or.inl rfl | exact Or.inr rfl))) (fun _ _ _ _ _ => pts_nil) (fun _ _ _ _ _ => (pe_cmpR (opU al) (pv 8) (pe_fldU K (pv 0) rfl) rfl))) pa_nil))))))) (pss_one (ps_ret pe_bl)) pss_nil) (pss_cons (ps_if (PW.pt (pw_or (pt_not (pt_val (pe_callB (callU al) (by rfl) n_all b_all (pa_cons (pe_lc (own := [("part", 8), ("many", 9)]) al.calm sc_Parts_is_row.nd (pi_val al (pv 3)) (blkOk_by (own := [("part", 8), ("many", 9)]) (N := ["self", "row", "name", "needs", "steps", "lot", "lead", "others", "part", "many", "machine", "minutes"]) (sc := (defScope s_Parts_is_row)) (by decide +kernel)) (fun _ _ _ _ _ => (pg_tupU (n := 2) K (pgs_cons (pg_name (i := 8) sc_Parts_is_row.nd rfl (by first | exact Or.inl rfl | exact Or.inr rfl)) (pgs_cons (pg_name (i := 9) sc_Parts_is_row.nd rfl (by first | exact Or.inl rfl | exact Or.inr rfl)) pgs_nil)))) (fun _ _ _ _ _ => pts_nil) (fun _ _ _ _ _ => (pe_chain (opU al) (opU al) pe_int (pv 9) (pe_gi c_MOST_NEED rfl)))) pa_nil)))) (pw_or1 (pt_cmpR (opU al) (pe_callB (callU al) (by rfl) n_len b_len (pa_cons (pv 4) pa_nil)) (pe_gi c_MOST_STEPS rfl) (nomark _))))) (pss_one (ps_ret pe_bl)) pss_nil) (pss_one (ps_ret (pe_callB (callU al) (by rfl) n_all b_all (pa_cons (pe_lc (own := [("machine", 10), ("minutes", 11)]) al.calm sc_Parts_is_row.nd (pi_val al (pv 4)) (blkOk_by (own := [("machine", 10), ("minutes", 11)]) (N := ["self", "row", "name", "needs", "steps", "lot", "lead", "others", "part", "many", "machine", "minutes"]) (sc := (defScope s_Parts_is_row)) (by decide +kernel)) (fun _ _ _ _ _ => (pg_tupU (n := 2) K (pgs_cons (pg_name (i := 10) sc_Parts_is_row.nd rfl (by first | exact Or.inl rfl | exact Or.inr rfl)) (pgs_cons (pg_name (i := 11) sc_Parts_is_row.nd rfl (by first | exact Or.inl rfl | exact Or.inr rfl)) pgs_nil)))) (fun _ _ _ _ _ => pts_nil) (fun _ _ _ _ _ => (pe_and (pe_chain (opU al) (opU al) pe_int (pv 10) (pe_gi c_MACHINES rfl)) (pe_one (pe_chain (opU al) (opU al) pe_int (pv 11) (pe_gi c_MOST_MINUTES rfl)))))) pa_nil))))))))), ?_⟩
    repeat tb_start
    obtain ⟨lo1, lo2⟩ := G.lot
    obtain ⟨le1, le2⟩ := G.lead
    have fs := G.few
    refine r_gtupRow S hv fun v2 v3 h2 h3 => ?_
    repeat tb_start
    have nl : r.name.length ≤ 3500 := by
      have := G.nm
      unfold isNameM at this
      simp only [Bool.and_eq_true, decide_eq_true_eq] at this
      omega
    refine ⟨B, r.name, rfl, S.ex, nl, fun B1 H1 T1 => ?_⟩
    have S1 := S.callP T1
    have e1 := T1.ex0
    repeat tb_start
    rw [G.nm]
    repeat tb_start
    have no : (valV kvs (.inr r.name)).isSome = false := valV_isSome_false (by
      rw [hk]
      intro z
      obtain ⟨x, hx, e⟩ := List.mem_map.mp z
      exact G.new (Sum.inr.inj e ▸ hx))
    rw [no]
    repeat tb_start
    have nlen : r.needs.length ≤ 12 := by
      have h1 := nodup_sub_length G.nd (l' := names) (by
        intro x hx
        obtain ⟨y, hy, rfl⟩ := List.mem_map.mp hx
        exact G.known y hy)
      rw [List.length_map] at h1
      omega
    refine lcPureT S1 (h2.up e1) (fun _ => true) (fun x => .str x.1) (by omega) ?_ ?_
    · intro x v B2 D acc H2 C Cs hx e2 S2 hv kC kS
      repeat tb_start
      refine r_gtupSI S2 hv ?_
      repeat tb_start
      refine ⟨rfl, ?_⟩
      repeat tb_start
      exact kC _ _ _ rfl (Ex.refl _) S2 (.str _)
    · intro D acc B2 H2 e2 S2 hacc
      rw [filter_tt] at hacc
      have hD' : DpAll K B2 acc ((r.needs.map (·.1)).map PyData.str) := by rw [List.map_map]; exact hacc
      obtain ⟨B3, e3, S3, hD⟩ := S2.toData hD'
      repeat tb_start
      refine v_setOfD S3 hD (by rw [List.length_map]; omega) fun p4 H4 S4 => ?_
      rw [unlike_strs G.nd] at S4
      repeat tb_start
      refine v_lenSet (S4.mem (.head _)) (by rw [List.length_map]; omega) ?_
      have S5 := S4.drop
      repeat tb_start
      refine lcPureL S5 hD (fun _ => true) (fun _ => .bool true) (by rw [List.length_map]; omega) ?_ ?_
      · intro x v B6 D6 acc6 H6 C Cs hx e6 S6 hv kC kS
        obtain rfl := hv.str_inv
        repeat tb_start
        refine ⟨rfl, ?_⟩
        repeat tb_start
        have yes : (valV kvs (.inr x)).isSome = true := valV_isSome_true (by
          rw [hk]
          obtain ⟨y, hy, rfl⟩ := List.mem_map.mp hx
          exact List.mem_map.mpr ⟨_, G.known y hy, rfl⟩)
        rw [yes]
        exact kC _ _ _ rfl (Ex.refl _) S6 (.bl _)
      · intro D6 acc6 B6 H6 e6 S6 hacc6
        rw [filter_tt] at hacc6
        obtain ⟨B7, e7, S7, hD7⟩ := S6.toData (ds := ((r.needs.map (·.1)).map fun _ => true).map PyData.bool) (by rw [List.map_map]; exact hacc6)
        repeat tb_start
        refine v_allD S7 hD7 ?_
        have all1 : (((r.needs.map (·.1)).map fun _ => true).all id) = true := by simp
        rw [all1]
        repeat tb_start
        refine lcPureT S7 (h2.up (e1.trans (e2.trans (e3.trans (e6.trans e7))))) (fun _ => true) (fun _ => .bool true) (by omega) ?_ ?_
        · intro x v B8 D8 acc8 H8 C Cs hx e8 S8 hv kC kS
          obtain ⟨m1, m2⟩ := G.many x hx
          repeat tb_start
          refine r_gtupSI S8 hv ?_
          repeat tb_start
          refine ⟨rfl, ?_⟩
          repeat tb_start
          rw [decide_eq_true m2]
          exact kC _ _ _ rfl (Ex.refl _) S8 (.bl _)
        · intro D8 acc8 B8 H8 e8 S8 hacc8
          rw [filter_tt] at hacc8
          obtain ⟨B9, e9, S9, hD9⟩ := S8.toData (ds := (r.needs.map fun _ => true).map PyData.bool) (by rw [List.map_map]; exact hacc8)
          repeat tb_start
          refine v_allD S9 hD9 ?_
          have all2 : ((r.needs.map fun _ => true).all id) = true := by simp
          rw [all2]
          repeat tb_start
          refine lcPureT S9 (h3.up (e1.trans (e2.trans (e3.trans (e6.trans (e7.trans (e8.trans e9))))))) (fun _ => true) (fun _ => .bool true) (by omega) ?_ ?_
          · intro x v Ba Da acca Ha C Cs hx ea Sa hv kC kS
            obtain ⟨⟨m1, m2⟩, m3, m4⟩ := G.steps x hx
            repeat tb_start
            refine r_gtupII Sa hv ?_
            repeat tb_start
            refine ⟨rfl, ?_⟩
            repeat tb_start
            rw [decide_eq_true m4]
            exact kC _ _ _ rfl (Ex.refl _) Sa (.bl _)
          · intro Da acca Ba Ha ea Sa hacca
            rw [filter_tt] at hacca
            obtain ⟨Bb, eb, Sb, hDb⟩ := Sa.toData (ds := (r.steps.map fun _ => true).map PyData.bool) (by rw [List.map_map]; exact hacca)
            repeat tb_start
            refine v_allD Sb hDb ?_
            have all3 : ((r.steps.map fun _ => true).all id) = true := by simp
            rw [all3]
            exact k _ _ Sb
end
end LW

namespace LW
open PySem PySem.Spec PyProof.Rows L2 WK PM
abbrev s_Parts_led_to : Stmt := inClass (topS 22) 2
theorem sc_Parts_led_to : FnScope ["self", "needs", "found", "part", "many", "other", "more"] ["self", "needs"] (defScope s_Parts_led_to) := ⟨rfl, rfl, rfl, by decide +kernel, rfl, by decide +kernel, by decide +kernel⟩
def spLedTo (K : PySem.W.Frag) (CP : Addr) : Sp := fun vs H Q _ => ∃ (B : Hp) (p dx a l : Addr) (v : V) (rkv lkv : List (Key × V)) (names : List Str) (ls : List (Str × List (Str × Int))) (needs : List (Str × Int)), vs = [.ref p, v] ∧ Ex B H ∧
  H p = some (.ins CP dx (fldsP a l)) ∧ H a = some (.dK rkv) ∧ B a = none ∧ rkv.map (·.1) = names.map Sum.inr ∧ names.Nodup ∧ names.length ≤ 12 ∧ Rd H l (.dK lkv) ∧ LedKV B lkv ls ∧ Dp K B v (.tuple (needs.map encNeed)) ∧
  (∀ x ∈ needs, x.1 ∈ names ∧ (1 ≤ x.2 ∧ x.2 ≤ 9) ∧ ∃ m, getA ls x.1 = some m ∧ ∀ y ∈ m, y.1 ∈ names) ∧
  ∀ D B' H', Ex B B' → Ok ⟨B, H, []⟩ B' [(D, .dK (kvI (ledTo names ls needs)))] H' → Q (.ref D) H'
section
variable {P : Program} {w : World} {K : PySem.W.Frag} {mg : Str → Option Value} {base : Heap}
theorem ok_led_to {f CP : Addr} {fd : FuncData} (F : Fun K "led_to" "Parts.led_to" s_Parts_led_to f fd) (clP : Cls K CP) (nRows : NoAttr K CP "rows") (nLed : NoAttr K CP "led") : FnOk P w K mg base CX0 1 f fd ["self", "needs"] (spLedTo K CP) := by
  refine F.ok sc_Parts_led_to (fun vs H Q E h => ?_) (fun cdv A outer s H vs Q E hr h => ?_)
  · obtain ⟨B, p, dx, a, l, v, rkv, lkv, names, ls, needs, rfl, _⟩ := h
    rfl
  · obtain ⟨B, p, dx, a, l, v, rkv, lkv, names, ls, needs, rfl, ex, hp, ha, hb, hk, nd, hn, hl, LK, hv, hx, k⟩ := h
    have S := Ok.start0 ex
    refine with_al (P := P) (w := w) (K := K) hr (fun al => ?_)
    refine ⟨_, (pss_cons (ps_lock (ps_setDc (i := 2) (own := [("part", 3)]) al.calm sc_Parts_led_to.nd rfl rfl (sw_trueD rfl rfl rfl (by decide +kernel)) (pi_keys (pe_fldU K (pv 0) rfl)) (blkOk_by (own := [("part", 3)]) (N := ["self", "needs", "found", "part", "many", "other", "more"]) (sc := (defScope s_Parts_led_to)) (by decide +kernel)) (fun _ _ _ _ _ => (pg_name (i := 3) sc_Parts_led_to.nd rfl (by first | exact Or.inl rfl | exact Or.inr rfl))) (fun _ _ _ _ _ => pts_nil) (fun _ _ _ _ _ => (pv 3)) (fun _ _ _ _ _ => pe_int))) (pss_cons (ps_for PassesOwn.never rfl (pi_val al (pv 1)) (pg_tupU (n := 2) K (pgs_cons (pg_name (i := 3) sc_Parts_led_to.nd rfl (by first | exact Or.inl rfl | exact Or.inr rfl)) (pgs_cons (pg_name (i := 4) sc_Parts_led_to.nd rfl (by first | exact Or.inl rfl | exact Or.inr rfl)) pgs_nil))) (pss_cons (ps_augS (pv 2) (pv 3) (getU al) (pv 4) (ipU al) (setU al)) (pss_one (ps_for PassesOwn.never rfl (pi_items (pe_ix (ixU al) (pe_fldU K (pv 0) rfl) (pv 3) (fun _ _ => rfl))) (pg_tupU (n := 2) K (pgs_cons (pg_name (i := 5) sc_Parts_led_to.nd rfl (by first | exact Or.inl rfl | exact Or.inr rfl)) (pgs_cons (pg_name (i := 6) sc_Parts_led_to.nd rfl (by first | exact Or.inl rfl | exact Or.inr rfl)) pgs_nil))) (pss_one (ps_augS (pv 2) (pv 5) (getU al) (pe_op (opU al) (pv 4) (pv 6)) (ipU al) (setU al))))))) (pss_one (ps_ret (pe_frz (pe_dc (own := [("part", 3), ("many", 4)]) al.calm sc_Parts_led_to.nd (pi_items (pv 2)) (blkOk_by (own := [("part", 3), ("many", 4)]) (N := ["self", "needs", "found", "part", "many", "other", "more"]) (sc := (defScope s_Parts_led_to)) (by decide +kernel)) (fun _ _ _ _ _ => (pg_tupU (n := 2) K (pgs_cons (pg_name (i := 3) sc_Parts_led_to.nd rfl (by first | exact Or.inl rfl | exact Or.inr rfl)) (pgs_cons (pg_name (i := 4) sc_Parts_led_to.nd rfl (by first | exact Or.inl rfl | exact Or.inr rfl)) pgs_nil)))) (fun _ _ _ _ _ => pts_one (pt_cmpR (opU al) (pv 4) pe_int (nomark _))) (fun _ _ _ _ _ => (pv 3)) (fun _ _ _ _ _ => (pv 4)))))))), ?_⟩
    repeat tb_start
    refine r_lockS ha trivial fun od => ?_
    have S1 := S.lock (od := od) ha hb (by simp)
    have hp1 : upd H a (.frz od (.dK rkv)) p = some (.ins CP dx (fldsP a l)) := by
      rw [upd_ne (fun z => by rw [z, ha] at hp; cases hp)]; exact hp
    repeat tb_start
    refine keyQ upd_same ?_
    refine dcPure src_keys S1 (fun B1 D acc e => .inr (.tail _ (.head _))) (fun _ => true) (fun q => (q, .int 0)) ?_ ?_ ?_ ?_
    · rw [List.map_id', hk]
      exact nodup_inr nd
    · rw [hk, List.length_map]; omega
    · intro q x B2 D acc H2 C Cs hq e2 S2 hv kC kS
      rw [hk] at hq
      obtain ⟨z, hz, rfl⟩ := List.mem_map.mp hq
      subst hv
      repeat tb_start
      refine ⟨rfl, ?_⟩
      repeat tb_start
      exact kC _ _ _ rfl rfl (Ex.refl _) S2
    · intro D B2 H2 e2 S2
      rw [filter_tt, hk] at S2
      have eq0 : ((names.map Sum.inr).map fun q : Key => ((q, .int 0) : Key × V)) = kvI (names.map fun s => (s, 0)) := by
        unfold kvI
        rw [List.map_map, List.map_map]; rfl
      rw [eq0] at S2
      have S3 := S2.swap
      obtain ⟨e0, S4⟩ := S.unlock ha hb (by simp) S3
      refine ⟨e0, ?_⟩
      repeat tb_start
      refine forDT S4 (hv.up e2) (fun i σ B1 L1 => ∃ x1 x2 x3 x4, σ = [some (.ref p), some v, some (.ref D), x1, x2, x3, x4] ∧ L1 = [(D, .dK (kvI ((needs.take i).foldl (needStep ls) (names.map fun s => (s, 0)))))]) ?_ ?_ ?_
      · exact ⟨_, _, _, _, rfl, rfl⟩
      · rintro i x xv σ B1 B3 L1 H3 hget ⟨_, _, _, _, rfl, rfl⟩ e3 e4 S5 hxv
        have hmem := List.mem_of_getElem? hget
        obtain ⟨hin, ⟨m1, m2⟩, m, hm, hmk⟩ := hx x hmem
        have keys0 : ((needs.take i).foldl (needStep ls) (names.map fun s => (s, 0))).map (·.1) = names := by
          rw [needs_keys]
          · rw [List.map_map]; exact List.map_id' _
          · intro y hy
            rw [List.map_map]
            exact (List.map_id' names).symm ▸ (hx y (List.mem_of_mem_take hy)).1
          · intro y hy m' em z hz
            obtain ⟨_, _, m'', em'', hm''⟩ := hx y (List.mem_of_mem_take hy)
            rw [em''] at em
            cases em
            rw [List.map_map]
            exact (List.map_id' names).symm ▸ hm'' z hz
        rw [foldl_take_succ hget]
        generalize hf : (needs.take i).foldl (needStep ls) (names.map fun s => (s, 0)) = f at S5 keys0 ⊢
        repeat tb_start
        refine r_gtupSI S5 hxv ?_
        repeat tb_start
        obtain ⟨c, hc⟩ := getA_of_mem (l := f) (s := x.1) (by rw [keys0]; exact hin)
        refine v_getDS (kvs := kvI f) (by kts_caught) (by rw [valV_kvI, hc]; rfl) ?_
        repeat tb_start
        have len1 : f.length ≤ 12 := by
          have := congrArg List.length keys0
          rw [List.length_map] at this
          omega
        refine v_setKN (k := .inr x.1) 0 S5 rfl rfl (by rw [List.length_map, sizeLine_eq]; omega) fun H4 S6 => ?_
        rw [putK_kvI] at S6
        have eadd : putA f x.1 (c + x.2) = addA f x.1 x.2 := by unfold addA; rw [hc]; rfl
        rw [eadd] at S6
        replace S6 : Ok _ B3 [(D, .dK (kvI (addA f x.1 x.2)))] H4 := S6
        have keys1 : (addA f x.1 x.2).map (·.1) = names := by rw [addA_keys (by rw [keys0]; exact hin), keys0]
        obtain ⟨d, od2, hd1, hd2⟩ := LK.get hm
        repeat tb_start
        refine v_ixDS (kvs := lkv) (S6.keptRd hl) hd1 ?_
        repeat tb_start
        have e5 : Ex B B3 := e2.trans (e3.trans e4)
        refine itmQ (S6.ex _ _ (e5 _ _ hd2)) ?_
        refine forDS src_items S6 (fun j σ B1 L1 => ∃ x3 x4, σ = [some (.ref p), some v, some (.ref D), some (.str x.1), some (.int x.2), x3, x4] ∧ L1 = [(D, .dK (kvI (addAll x.2 (addA f x.1 x.2) (m.take j))))]) (fun j σ B1 L1 e6 _ => .inl (e6 _ _ (e5 _ _ hd2))) ?_ ?_ ?_
        · exact ⟨_, _, rfl, rfl⟩
        · rintro j kv yv σ B1 B4 L1 H5 hgetj ⟨_, _, rfl, rfl⟩ e6 e7 S7 ⟨T, rfl, hT⟩
          obtain ⟨y, hy, rfl⟩ := kvI_get hgetj
          have hyk := hmk y (List.mem_of_getElem? hy)
          unfold addAll at S7 ⊢
          rw [foldl_take_succ hy]
          have keys2 : ((m.take j).foldl (fun f p => addA f p.1 (x.2 * p.2)) (addA f x.1 x.2)).map (·.1) = names := by
            have := addAll_keys (m := x.2) (f := addA f x.1 x.2) (more := m.take j) (fun z hz => by rw [keys1]; exact hmk z (List.mem_of_mem_take hz))
            unfold addAll at this
            rw [this, keys1]
          generalize hg : (m.take j).foldl (fun f p => addA f p.1 (x.2 * p.2)) (addA f x.1 x.2) = g at S7 keys2 ⊢
          refine r_gtupB S7 hT rfl ?_
          repeat tb_start
          obtain ⟨c2, hc2⟩ := getA_of_mem (l := g) (s := y.1) (by rw [keys2]; exact hyk)
          refine v_getDS (kvs := kvI g) (by kts_caught) (by rw [valV_kvI, hc2]; rfl) ?_
          repeat tb_start
          have len2 : g.length ≤ 12 := by
            have := congrArg List.length keys2
            rw [List.length_map] at this
            omega
          refine v_setKN (k := .inr y.1) 0 S7 rfl rfl (by rw [List.length_map, sizeLine_eq]; omega) fun H6 S8 => ?_
          rw [putK_kvI] at S8
          have eadd2 : putA g y.1 (c2 + x.2 * y.2) = addA g y.1 (x.2 * y.2) := by
            rw [addA, hc2]; rfl
          rw [eadd2] at S8
          refine NxE.mk' S8 (e6.trans e7) ?_
          exact ⟨_, _, rfl, rfl⟩
        · rintro σ B4 L4 H5 ⟨_, _, rfl, rfl⟩ e6 S7
          have et : m.take (kvI m).length = m := by rw [List.length_map, List.take_length]
          rw [et] at S7
          refine NxE.mk' S7 ((e3.trans e4).trans e6) ?_
          refine ⟨_, _, _, _, rfl, ?_⟩
          unfold needStep
          rw [hm]
          rfl
      · rintro σ B4 L4 H4 ⟨_, _, _, _, rfl, rfl⟩ e3 S5
        rw [List.take_length] at S5
        have keys0 : (ledRaw names ls needs).map (·.1) = names := by
          unfold ledRaw
          rw [needs_keys]
          · rw [List.map_map]; exact List.map_id' _
          · intro y hy
            rw [List.map_map]
            exact (List.map_id' names).symm ▸ (hx y hy).1
          · intro y hy m' em z hz
            obtain ⟨_, _, m'', em'', hm''⟩ := hx y hy
            rw [em''] at em
            cases em
            rw [List.map_map]
            exact (List.map_id' names).symm ▸ hm'' z hz
        replace S5 : Ok _ B4 [(D, .dK (kvI (ledRaw names ls needs)))] H4 := S5
        repeat tb_start
        refine frzE (S5.own _ (.head _)).1 trivial fun od3 => ?_
        obtain ⟨B5, e5, hD, S6⟩ := S5.freezeD (od := od3)
        repeat tb_start
        refine itmQ (S6.ex _ _ hD) ?_
        refine dcPure src_items S6 (fun B1 D acc e => .inl (e _ _ hD)) (vInt fun i => decide (0 < i)) id ?_ ?_ ?_ ?_
        · show ((kvI (ledRaw names ls needs)).map (·.1)).Nodup
          rw [kvI_keys, keys0]
          exact nodup_inr nd
        · have := congrArg List.length keys0
          rw [List.length_map] at this ⊢
          omega
        · rintro kv x B6 D6 acc H6 C Cs hkv e6 S7 ⟨T, rfl, hT⟩ kC kS
          obtain ⟨y, hy, rfl⟩ := List.mem_map.mp hkv
          refine r_gtupB S7 hT rfl ?_
          repeat tb_start
          refine ⟨rfl, ?_⟩
          repeat tb_start
          refine ifd (fun h0 => ?_) (fun h0 => ?_)
          · repeat tb_start
            exact kC _ _ _ (decide_eq_true h0) rfl (Ex.refl _) S7
          · exact kS _ _ (decide_eq_false h0) (Ex.refl _) S7
        · intro D6 B6 H6 e6 S7
          rw [List.map_id] at S7
          rw [kvI_filter] at S7
          exact k D6 B6 H6 (e2.trans (e3.trans (e5.trans e6))) S7
end
end LW

namespace LW
open PySem PySem.Spec PyProof.Rows L2 WK PM
abbrev s_Parts___init__ : Stmt := inClass (topS 22) 0
theorem sc_Parts___init__ : FnScope ["self", "told", "at", "row", "name", "needs", "steps", "lot", "lead"] ["self", "told"] (defScope s_Parts___init__) := ⟨rfl, rfl, rfl, by decide +kernel, rfl, by decide +kernel, by decide +kernel⟩
def spPInit (K : PySem.W.Frag) (CP : Addr) : Sp := fun vs H Q _ => ∃ (B : Hp) (p dx : Addr) (v : V) (rs : List PRow), vs = [.ref p, v] ∧ Ok ⟨B, H, [p]⟩ B [(p, .ins CP dx [])] H ∧ Dpl K B v (rs.map encRow) ∧ GoodBook rs ∧
  ∀ a l rkv lkv B' H', Ex B B' → RowKV K B' rkv rs → LedKV B' lkv (ledOf rs) → Ok ⟨B, H, [p]⟩ B' [(l, .dK lkv), (a, .dK rkv), (p, .ins CP dx (fldsP a l))] H' → Q .non H'
section
variable {P : Program} {w : World} {K : PySem.W.Frag} {mg : Str → Option Value} {base : Heap}
theorem ok_parts_init {f CP : Addr} {fd : FuncData} (F : Fun K "__init__" "Parts.__init__" s_Parts___init__ f fd) (G_is_row : MtG P w K mg base 2 CP "is_row" ["self", "row"] (spIsRow K CP)) (G_led_to : MtG P w K mg base 1 CP "led_to" ["self", "needs"] (spLedTo K CP))
    (clP : Cls K CP) (nRows : NoAttr K CP "rows") (nLed : NoAttr K CP "led") (n_enumerate : mg "enumerate" = none) (n_tuple : mg "tuple" = none) (n_sum : mg "sum" = none) (c_MOST_PARTS : GlI mg "MOST_PARTS" 12) (c_MOST_LED : GlI mg "MOST_LED" 200) : FnOk P w K mg base CX0 3 f fd ["self", "told"] (spPInit K CP) := by
  refine F.ok sc_Parts___init__ (fun vs H Q E h => ?_) (fun cdv A outer s H vs Q E hr h => ?_)
  · obtain ⟨B, p, dx, v, rs, rfl, _⟩ := h
    rfl
  · obtain ⟨B, p, dx, v, rs, rfl, S, hv, G, k⟩ := h
    refine with_al (P := P) (w := w) (K := K) hr (fun al => ?_)
    refine ⟨_, (pss_cons (ps_fldK K (pv 0) pe_dnewK rfl) (pss_cons (ps_fldK K (pv 0) pe_dnewK rfl) (pss_one (ps_for PassesOwn.never rfl (pi_enumV (by rfl) n_enumerate (pa_cons (pv 1) pa_nil)) (pg_tupU (n := 2) K (pgs_cons (pg_name (i := 2) sc_Parts___init__.nd rfl (by first | exact Or.inl rfl | exact Or.inr rfl)) (pgs_cons (pg_name (i := 3) sc_Parts___init__.nd rfl (by first | exact Or.inl rfl | exact Or.inr rfl)) pgs_nil))) (pss_cons (ps_if (PW.pt (pw_or (pt_cmpR (opU al) (pv 2) (pe_gi c_MOST_PARTS rfl) (nomark _)) (pw_or1 (pt_not (pt_val (pe_mth G_is_row (hr.mono (by first | decide | omega)) (pv 0) (pa_cons (pv 3) pa_nil))))))) (pss_one ps_never) pss_nil) (pss_cons (ps_asg (pv 3) (pg_tupU (n := 5) K (pgs_cons (pg_name (i := 4) sc_Parts___init__.nd rfl (by first | exact Or.inl rfl | exact Or.inr rfl)) (pgs_cons (pg_name (i := 5) sc_Parts___init__.nd rfl (by first | exact Or.inl rfl | exact Or.inr rfl)) (pgs_cons (pg_name (i := 6) sc_Parts___init__.nd rfl (by first | exact Or.inl rfl | exact Or.inr rfl)) (pgs_cons (pg_name (i := 7) sc_Parts___init__.nd rfl (by first | exact Or.inl rfl | exact Or.inr rfl)) (pgs_cons (pg_name (i := 8) sc_Parts___init__.nd rfl (by first | exact Or.inl rfl | exact Or.inr rfl)) pgs_nil))))))) (pss_cons (ps_asg (pe_tup (pa_cons (pe_callTy (callU al) (by rfl) n_tuple b_tuple (pa_cons (pv 5) pa_nil)) (pa_cons (pe_callTy (callU al) (by rfl) n_tuple b_tuple (pa_cons (pv 6) pa_nil)) (pa_cons (pv 7) (pa_cons (pv 8) pa_nil))))) (pg_sub (pe_fldU K (pv 0) rfl) (pv 4) (setU al))) (pss_cons (ps_asg (pe_mth G_led_to (hr.mono (by first | decide | omega)) (pv 0) (pa_cons (pv 5) pa_nil)) (pg_sub (pe_fldU K (pv 0) rfl) (pv 4) (setU al))) (pss_one (ps_frz (ps_if (pt_cmpR (opU al) (pe_sumVals al.calm (by rfl) n_sum (pe_ix (ixU al) (pe_fldU K (pv 0) rfl) (pv 4) (fun _ _ => rfl))) (pe_gi c_MOST_LED rfl) (nomark _)) (pss_one ps_never) pss_nil))))))))))), ?_⟩
    repeat tb_start
    refine new_dK S fun a H1 S1 => ?_
    repeat tb_start
    refine sfdQ 1 S1 rfl clP nRows (by decide) rfl fun H2 S2 => ?_
    repeat tb_start
    refine new_dK S2 fun l H3 S3 => ?_
    repeat tb_start
    refine sfdQ 2 S3 rfl clP nLed (by show 1 < 1000; decide) rfl fun H4 S4 => ?_
    replace S4 : Ok ⟨B, H, [p]⟩ B [(l, .dK []), (a, .dK []), (p, .ins CP dx (fldsP a l))] H4 := S4
    repeat tb_start
    refine enuD S4 hv fun J src => ?_
    refine forDS src S4 (fun i σ B1 L1 => ∃ x1 x2 x3 x4 x5 x6 x7 rkv lkv, σ = [some (.ref p), some v, x1, x2, x3, x4, x5, x6, x7] ∧ RowKV K B1 rkv (rs.take i) ∧ LedKV B1 lkv (ledOf (rs.take i)) ∧ L1 = [(l, .dK lkv), (a, .dK rkv), (p, .ins CP dx (fldsP a l))])
      (fun i σ B1 L1 e _ => e) ?_ ?_ ?_
    · exact ⟨_, _, _, _, _, _, _, _, _, rfl, .nil, .nil, rfl⟩
    · rintro i y xv σ B1 B3 L1 H5 hget ⟨_, _, _, _, _, _, _, rkv, lkv, rfl, RK0, LK0, rfl⟩ e3 e4 S5 ⟨T, u, rfl, hT, hu⟩
      obtain ⟨hr1, hr2⟩ := zipIdx_at hget
      have RK := RK0.up e4
      have LK := LK0.up e4
      have R := G.row i _ hr1
      have hi : i < rs.length := (List.getElem?_eq_some_iff.mp hr1).1
      have hlen := G.len
      refine r_gtupB S5 hT rfl ?_
      repeat tb_start
      have names_len : ((rs.take i).map (·.name)).length ≤ 12 := by rw [List.length_map, List.length_take]; omega
      refine ⟨B3, p, dx, a, l, u, rkv, (rs.take i).map (·.name), y.1, rfl, S5.ex, by kts_caught, by kts_caught, RK.keys, hu, R, names_len, fun B6 H6 T6 => ?_⟩
      have S6 := S5.callP T6
      have e6 := T6.ex0
      repeat tb_start
      refine r_gtupRow S6 (hu.up e6) fun v2 v3 h2 h3 => ?_
      repeat tb_start
      refine v_tupDT S6 h2 ?_
      repeat tb_start
      refine v_tupDT S6 h3 ?_
      repeat tb_start
      refine new_tupD S6 (.cons h2 (.cons h3 (.cons (.int _) (.cons (.int _) .nil)))) (by simp) fun t B7 H7 e7 S7 ht => ?_
      repeat tb_start
      refine v_setKN (k := .inr y.1.name) 1 S7 rfl rfl ?_ fun H8 S8 => ?_
      · have := congrArg List.length RK.keys
        rw [List.length_map, List.length_map] at this
        rw [this, sizeLine_eq]
        omega
      have no : valV rkv (.inr y.1.name) = none := valV_none (by
        rw [RK.keys]
        intro z
        obtain ⟨x, hx, e⟩ := List.mem_map.mp z
        exact R.new (Sum.inr.inj e ▸ hx))
      rw [putK_new _ no] at S8
      replace S8 : Ok ⟨B, H, [p]⟩ B7 [(l, .dK lkv), (a, .dK (rkv ++ [(.inr y.1.name, .ref t)])), (p, .ins CP dx (fldsP a l))] H8 := S8
      have RK8 : RowKV K B7 (rkv ++ [(.inr y.1.name, .ref t)]) (rs.take (i + 1)) := by
        rw [List.take_add_one, hr1]
        exact ((RK.up e6).up e7).snoc ht
      have LK8 := (LK.up e6).up e7
      repeat tb_start
      refine ⟨B7, p, dx, a, l, v2, _, lkv, (rs.take i).map (·.name) ++ [y.1.name], ledOf (rs.take i), y.1.needs, rfl, S8.ex, by kts_caught, S8.mem (.tail _ (.head _)), (S8.own _ (.tail _ (.head _))).2, ?_, ?_, ?_, by kts_caught, LK8, h2.up e7, G.needs hr1, fun D B9 H9 e9 T9 => ?_⟩
      · rw [← take_succ_map hr1]
        exact RK8.keys
      · rw [← take_succ_map hr1]
        exact G.nodup _
      · rw [← take_succ_map hr1, List.length_map, List.length_take]; omega
      have S9 := S8.callN T9
      have hm : ledTo ((rs.take i).map (·.name) ++ [y.1.name]) (ledOf (rs.take i)) y.1.needs = ledTo ((ledOf (rs.take i)).map (·.1) ++ [y.1.name]) (ledOf (rs.take i)) y.1.needs := by rw [ledOf_names]
      rw [hm] at S9
      have hstep : ledOf (rs.take (i + 1)) = ledOf (rs.take i) ++ [(y.1.name, ledTo ((ledOf (rs.take i)).map (·.1) ++ [y.1.name]) (ledOf (rs.take i)) y.1.needs)] := ledOf_take hr1
      generalize ledTo ((ledOf (rs.take i)).map (·.1) ++ [y.1.name]) (ledOf (rs.take i)) y.1.needs = m at S9 hstep
      have hsum : (m.map (·.2)).sum ≤ 200 := G.led (y.1.name, m) (ledOf_sub (i + 1) _ (by rw [hstep]; exact List.mem_append_right _ (.head _)))
      repeat tb_start
      refine v_setKN (k := .inr y.1.name) 1 S9 rfl rfl ?_ fun H10 S10 => ?_
      · have := congrArg List.length LK.keys
        have h2 := congrArg List.length (ledOf_names (rs.take i))
        rw [List.length_map, List.length_map] at this h2
        rw [List.length_take] at h2
        rw [this, sizeLine_eq]
        omega
      have noL : valV lkv (.inr y.1.name) = none := valV_none (by
        rw [LK.keys]
        intro z
        obtain ⟨x, hx, e⟩ := List.mem_map.mp z
        refine R.new ?_
        rw [← ledOf_names]
        exact List.mem_map.mpr ⟨x, hx, Sum.inr.inj e⟩)
      rw [putK_new _ noL] at S10
      replace S10 : Ok ⟨B, H, [p]⟩ B9 [(D, .dK (kvI m)), (l, .dK (lkv ++ [(.inr y.1.name, .ref D)])), (a, .dK (rkv ++ [(.inr y.1.name, .ref t)])), (p, .ins CP dx (fldsP a l))] H10 := S10
      repeat tb_start
      refine frzS (S10.own _ (.head _)).1 trivial fun od => ?_
      obtain ⟨B11, e11, hD, S11⟩ := S10.freezeD (od := od)
      repeat tb_start
      refine v_ixDS (kvs := lkv ++ [(.inr y.1.name, .ref D)]) (by kts_caught) (by rw [valV_snoc _ _ _ _ noL, if_pos rfl]) ?_
      refine sumQ (by kts_caught) (kvI_vals m) ?_
      repeat tb_start
      refine NxE.mk' S11 (e3.trans <| e4.trans (e6.trans (e7.trans (e9.trans e11)))) ?_
      refine ⟨_, _, _, _, _, _, _, _, _, rfl, (RK8.up e9).up e11, ?_, rfl⟩
      rw [hstep]
      exact ((LK8.up e9).up e11).snoc hD
    · rintro σ B1 L1 H5 ⟨_, _, _, _, _, _, _, rkv, lkv, rfl, RK, LK, rfl⟩ e3 S5
      rw [List.length_zipIdx, List.take_length] at RK LK
      exact k a l rkv lkv _ _ e3 RK LK S5
end
end LW

namespace LW
open PySem PySem.Spec PyProof.Rows L2 WK PM
abbrev s__law_led : Stmt := topS 36
theorem sc__law_led : FnScope ["_law_rows", "_law_needs", "_law_found", "_law_part", "_law_many", "_law_inner", "_law_row", "_law_other"] ["_law_rows", "_law_needs"] (defScope s__law_led) := ⟨rfl, rfl, rfl, by decide +kernel, rfl, by decide +kernel, by decide +kernel⟩
def spLL (K : PySem.W.Frag) : Nat → Sp
  | 0 => fun _ _ _ _ => False
  | n + 1 => fun vs H Q _ => ∃ (B : Hp) (a : Addr) (xs : List V) (v : V) (d : PyData) (rs : List PRow) (needs : List (Str × Int)), vs = [.ref a, v] ∧ Ex B H ∧ SqL K H a xs ∧ DpAll K B xs (rs.map encRow) ∧ Dp K B v d ∧ (d = .list (needs.map encNeed) ∨ d = .tuple (needs.map encNeed)) ∧ GoodBook rs ∧
      (∀ x ∈ needs, x.1 ∈ (rs.take n).map (·.name)) ∧ (∀ x ∈ needs, 1 ≤ x.2 ∧ x.2 ≤ 9) ∧ needs.length ≤ 12 ∧ ∀ D H', Ok ⟨B, H, []⟩ B [(D, .dK (kvI (lawLed rs n needs)))] H' → Q (.ref D) H'
section
variable {P : Program} {w : World} {K : PySem.W.Frag} {mg : Str → Option Value} {base : Heap}
theorem ok__law_led0 {f : Addr} {fd : FuncData} : FnOk P w K mg base CX0 0 f fd ["_law_rows", "_law_needs"] (spLL K 0) := by
  exact ⟨fun vs H Q E h => False.elim h, fun _ _ _ _ _ _ _ _ _ _ _ _ _ h => False.elim h⟩
theorem ok__law_ledS {f : Addr} {fd : FuncData} {n : Nat} (F : Fun K "_law_led" "_law_led" s__law_led f fd) (G__law_led : FnG P w K mg base n "_law_led" ["_law_rows", "_law_needs"] (spLL K n)) : FnOk P w K mg base CX0 (n + 1) f fd ["_law_rows", "_law_needs"] (spLL K (n + 1)) := by
  refine F.ok sc__law_led (fun vs H Q E h => ?_) (fun cdv A outer s H vs Q E hr h => ?_)
  · obtain ⟨B, a, xs, v, d, rs, needs, rfl, _⟩ := h
    rfl
  · obtain ⟨B, a, xs, v, d, rs, needs, rfl, ex, hq, hda, hv, hd, G, hn, hb, hlen, k⟩ := h
    have S : Ok ⟨H, H, []⟩ H [] H := Ok.start0 (Ex.refl H)
    have hrows : Dp K H (.ref a) (.list (rs.map encRow)) := .lst hq (hda.up ex)
    have glen := G.len
    refine with_al (P := P) (w := w) (K := K) hr (fun al => ?_)
    refine ⟨_, (pss_cons (ps_asg pe_dnewK (pg_name (i := 2) sc__law_led.nd rfl (by first | exact Or.inl rfl | exact Or.inr rfl))) (pss_cons (ps_for PassesOwn.never rfl (pi_val al (pv 1)) (pg_tupU (n := 2) K (pgs_cons (pg_name (i := 3) sc__law_led.nd rfl (by first | exact Or.inl rfl | exact Or.inr rfl)) (pgs_cons (pg_name (i := 4) sc__law_led.nd rfl (by first | exact Or.inl rfl | exact Or.inr rfl)) pgs_nil))) (pss_cons (ps_asg (pe_op (opU al) (pe_bmU K PySem.F.plainAttrs_dict PySem.F.slot_dict_get PySem.F.type_dict_get (metU al) (pv 2) (pa_cons (pv 3) (pa_cons pe_int pa_nil))) (pv 4)) (pg_sub (pv 2) (pv 3) (setU al))) (pss_cons (ps_asg (pe_fn G__law_led (hr.mono (by first | decide | omega)) rfl (pa_cons (pv 0) (pa_cons (pe_ix (ixU al) (pe_lc (own := [("_law_row", 6)]) al.calm sc__law_led.nd (pi_val al (pv 0)) (blkOk_by (own := [("_law_row", 6)]) (N := ["_law_rows", "_law_needs", "_law_found", "_law_part", "_law_many", "_law_inner", "_law_row", "_law_other"]) (sc := (defScope s__law_led)) (by decide +kernel)) (fun _ _ _ _ _ => (pg_name (i := 6) sc__law_led.nd rfl (by first | exact Or.inl rfl | exact Or.inr rfl))) (fun _ _ _ _ _ => pts_one (pt_cmpR (opU al) (pe_ix (ixU al) (pv 6) pe_int (fun _ _ => rfl)) (pv 3) (nomark _))) (fun _ _ _ _ _ => (pe_ix (ixU al) (pv 6) pe_int (fun _ _ => rfl)))) pe_int (fun _ _ => rfl)) pa_nil))) (pg_name (i := 5) sc__law_led.nd rfl (by first | exact Or.inl rfl | exact Or.inr rfl))) (pss_one (ps_frz (ps_for PassesOwn.never rfl (pi_keys (pv 5)) (pg_name (i := 7) sc__law_led.nd rfl (by first | exact Or.inl rfl | exact Or.inr rfl)) (pss_one (ps_asg (pe_op (opU al) (pe_bmU K PySem.F.plainAttrs_dict PySem.F.slot_dict_get PySem.F.type_dict_get (metU al) (pv 2) (pa_cons (pv 7) (pa_cons pe_int pa_nil))) (pe_op (opU al) (pv 4) (pe_ix (ixU al) (pv 5) (pv 7) (fun _ _ => rfl)))) (pg_sub (pv 2) (pv 7) (setU al)))))))))) (pss_one (ps_ret (pv 2))))), ?_⟩
    repeat tb_start
    refine new_dK S fun D H1 S1 => ?_
    repeat tb_start
    refine forDA S1 (hv.up ex) hd (fun i σ B1 L1 => ∃ x1 x2 x3 x4 x5, σ = [some (.ref a), some v, some (.ref D), x1, x2, x3, x4, x5] ∧ L1 = [(D, .dK (kvI ((needs.take i).foldl (lawStep fun s => lawLed rs (n - 1) (needsOf rs s)) [])))]) ?_ ?_ ?_
    · exact ⟨_, _, _, _, _, rfl, rfl⟩
    · rintro i x xv σ B1 B3 L1 H3 hget ⟨_, _, _, _, _, rfl, rfl⟩ e3 e4 S5 hxv
      have hmem := List.mem_of_getElem? hget
      obtain ⟨m1, m2⟩ := hb x hmem
      obtain ⟨n, rfl⟩ : ∃ n', n = n' + 1 := by
        cases n with
        | zero => have := hn x hmem; cases this
        | succ n' => exact ⟨n', rfl⟩
      obtain ⟨r, hr1, hr2, hr3, hr4, hr5, hr6⟩ := G.at (hn x hmem)
      have hp1 := names_take (hn x hmem)
      have inner := lawLed_fine G n r.needs hr4
      have eR : needsOf rs x.1 = r.needs := by rw [← hr2]; exact needsOf_row G hr1
      rw [foldl_take_succ hget]
      have fine : Fine (rs.map (·.name)) ((needs.take i).foldl (lawStep fun s => lawLed rs n (needsOf rs s)) []) := by
        refine lawFold_fine (fun p hp => names_take (hn p (List.mem_of_mem_take hp))) (fun p hp => ?_) (Fine.nil _)
        obtain ⟨r2, q1, q2, _, q4, _⟩ := G.at (hn p (List.mem_of_mem_take hp))
        rw [← q2, needsOf_row G q1]
        exact (lawLed_fine G n r2.needs q4).sub
      show _
      have hsub : n + 1 - 1 = n := rfl
      rw [hsub] at S5 ⊢
      generalize (needs.take i).foldl (lawStep fun s => lawLed rs n (needsOf rs s)) [] = f at S5 fine ⊢
      have flen := fine.len
      rw [List.length_map] at flen
      have step : lawStep (fun s => lawLed rs n (needsOf rs s)) f x = addAll x.2 (addA f x.1 x.2) (lawLed rs n r.needs) := by
        show addAll x.2 (addA f x.1 x.2) (lawLed rs n (needsOf rs x.1)) = _
        rw [eR]
      rw [step]
      refine r_gtupSI S5 hxv ?_
      repeat tb_start
      rw [get_kvI]
      repeat tb_start
      refine v_setKN (k := .inr x.1) 0 S5 rfl rfl (by rw [List.length_map, sizeLine_eq]; omega) fun H4 S6 => ?_
      rw [putK_kvI] at S6
      replace S6 : Ok _ B3 [(D, .dK (kvI (addA f x.1 x.2)))] H4 := S6
      have fine1 := addA_fine (v := x.2) fine hp1
      generalize addA f x.1 x.2 = g at S6 fine1 ⊢
      repeat tb_start
      have e5 := e3.trans e4
      refine lcPureL S6 (hrows.up e5) (fun r => decide (r.name = x.1)) (fun r => .tuple (r.needs.map encNeed)) (by omega) ?_ ?_
      · intro r0 xv2 B6 D6 acc H6 C Cs hmem0 e6 S7 hv0 kC kS
        repeat tb_start
        refine ⟨rfl, ?_⟩
        repeat tb_start
        refine v_ixDT (j := 0) S7 hv0 rfl rfl fun u hu => ?_
        obtain rfl := hu.str_inv
        repeat tb_start
        refine ifd (fun hh => ?_) (fun hh => ?_)
        · repeat tb_start
          refine v_ixDT (j := 1) S7 hv0 rfl rfl fun u hu => ?_
          exact kC _ _ _ (decide_eq_true hh) (Ex.refl _) S7 hu
        · exact kS _ _ (decide_eq_false hh) (Ex.refl _) S7
      · intro D6 acc B6 H6 e6 S7 hacc
        rw [hr3] at hacc
        obtain ⟨v0, _, rfl, hv0, hnil⟩ := hacc.cons_inv
        obtain rfl := hnil.nil_inv
        repeat tb_start
        have e7 := e5.trans e6
        refine ⟨B6, a, xs, v0, _, rs, r.needs, rfl, S7.ex, S7.sqB (e7.sqL hq), (hda.up ex).up e7, hv0, .inr rfl, G, hr4, hr5, hr6, fun D2 H7 T7 => ?_⟩
        have S8 := (S7.callN T7)
        generalize lawLed rs n r.needs = m at S8 inner ⊢
        replace S8 : Ok _ B6 [(D2, .dK (kvI m)), (D6, .lst [v0]), (D, .dK (kvI g))] H7 := S8
        have S9 : Ok _ B6 [(D2, .dK (kvI m)), (D, .dK (kvI g))] H7 := (S8.swap.drop)
        repeat tb_start
        refine frzS (S9.own _ (.head _)).1 trivial fun od => ?_
        obtain ⟨B9, e9, hD2, S10⟩ := S9.freezeD (od := od)
        repeat tb_start
        refine keyQ (S10.ex _ _ hD2) ?_
        refine forDS src_keysI S10 (fun j σ B1 L1 => ∃ x4 x5, σ = [some (.ref a), some v, some (.ref D), some (.str x.1), some (.int x.2), some (.ref D2), x4, x5] ∧ L1 = [(D, .dK (kvI (addAll x.2 g (m.take j))))]) (fun j σ B1 L1 e10 _ => .inl (e10 _ _ hD2)) ?_ ?_ ?_
        · exact ⟨_, _, rfl, rfl⟩
        · rintro j y yv σ B1 B11 L1 H8 hgetj ⟨_, _, rfl, rfl⟩ e10 e11 S11 rfl
          have hym := List.mem_of_getElem? hgetj
          have hyn := inner.sub y hym
          unfold addAll at S11 ⊢
          rw [foldl_take_succ hgetj]
          have fine2 := addAll_fine (m := x.2) (more := m.take j) (fun z hz => inner.sub z (List.mem_of_mem_take hz)) fine1
          unfold addAll at fine2
          generalize (m.take j).foldl (fun f p => addA f p.1 (x.2 * p.2)) g = q at S11 fine2 ⊢
          have qlen := fine2.len
          rw [List.length_map] at qlen
          repeat tb_start
          rw [get_kvI]
          refine v_ixDS (kvs := kvI m) (S11.rdStayF (e11 _ _ (e10 _ _ hD2))) (by rw [valV_kvI, getA_nodup hym inner.nd]; rfl) ?_
          repeat tb_start
          refine v_setKN (k := .inr y.1) 0 S11 rfl rfl (by rw [List.length_map, sizeLine_eq]; omega) fun H9 S12 => ?_
          rw [putK_kvI] at S12
          refine NxE.mk' S12 (e10.trans e11) ?_
          exact ⟨_, _, rfl, rfl⟩
        · rintro σ B1 L1 H8 ⟨_, _, rfl, rfl⟩ e10 S11
          rw [List.take_length] at S11
          refine NxE.mk' S11 (((e3.trans e4).trans e6).trans (e9.trans e10)) ?_
          exact ⟨_, _, _, _, _, rfl, rfl⟩
    · rintro σ B1 L1 H3 ⟨_, _, _, _, _, rfl, rfl⟩ e3 S5
      rw [List.take_length] at S5
      repeat tb_start
      refine k D _ (Ok.rebase (B' := B1) ex ?_)
      cases n with
      | zero =>
        cases needs with
        | nil => exact S5
        | cons p needs => have := hn p (.head _); cases this
      | succ n => exact S5
end
end LW

namespace LW
open PySem PySem.Spec PyProof.Rows L2 WK PM
abbrev s__law_parts : Stmt := topS 37
theorem sc__law_parts : FnScope ["_law_h", "_law_most", "_law_found", "_law_k", "_law_needs", "_law_row", "_law_steps", "_law_j", "_law_name"] ["_law_h", "_law_most"] (defScope s__law_parts) := ⟨rfl, rfl, rfl, by decide +kernel, rfl, by decide +kernel, by decide +kernel⟩
def PSn (K : PySem.W.Frag) (F : Ent) (B1 : Hp) (p q D : Addr) (acc : List V) (rs : List PRow) (z mx : Int) : L2.St → Hp → Prop := fun σ' H' => ∃ vn ns x5 x6 x7 x8 m cs kk B', σ' = [some (.ref p), some (.int mx), some (.ref D), some (.int z), some vn, x5, x6, x7, x8] ∧
  Ok F B' ((D, .lst acc) :: hL p q m cs kk) H' ∧ Ex B1 B' ∧ HS cs kk ∧ Dp K B' vn (.list (ns.map encNeed)) ∧ NsOk rs ns
def PSt (K : PySem.W.Frag) (F : Ent) (B1 : Hp) (p q D : Addr) (acc : List V) (rs : List PRow) (z mx : Int) (W : List (Str × Int) → Prop) : L2.St → Hp → Prop := fun σ' H' => ∃ vn ns vs st x5 x7 x8 m cs kk B', σ' = [some (.ref p), some (.int mx), some (.ref D), some (.int z), some vn, x5, some vs, x7, x8] ∧
  Ok F B' ((D, .lst acc) :: hL p q m cs kk) H' ∧ Ex B1 B' ∧ HS cs kk ∧ Dp K B' vn (.list (ns.map encNeed)) ∧ NsOk rs ns ∧ Dp K B' vs (.tuple (st.map encStep)) ∧ StOk st ∧ (z = 0 → st = []) ∧ W ns
/-- the first row has no steps -/
def Fst (rs : List PRow) : Prop := ∀ r, rs[0]? = some r → r.steps = []
/-- a draw, wherever the state stands in the ledger -/
theorem nextQ {F : Ent} {B H : Hp} {Q : VK} {p q : Addr} {m : Int} {cs : List Int} {kk many : Int} (L1 L2 : Led) (S : Ok F B (L1 ++ (hL p q m cs kk ++ L2)) H) (hS : HS cs kk) (h0 : 0 < many) (h1 : many < 1073741824)
    (k : ∀ r m' cs' kk' H', 0 ≤ r → r < many → HS cs' kk' → Ok F B (L1 ++ (hL p q m' cs' kk' ++ L2)) H' → Q (.int r) H') : spNext [.ref p, .int many] H Q E0 := by
  have S1 : Ok F B (hL p q m cs kk ++ (L1 ++ L2)) H := S.perm (by
    rw [← List.append_assoc, ← List.append_assoc]
    exact List.Perm.append_right _ List.perm_append_comm)
  refine ⟨B, p, q, m, cs, kk, many, rfl, S1.sub (L1 := hL p q m cs kk), hS, h0, h1, fun r m' cs' kk' H' r0 r1 hS' T => k r m' cs' kk' H' r0 r1 hS' ?_⟩
  have S2 : Ok F B (hL p q m' cs' kk' ++ (L1 ++ L2)) H' := S1.call (L1 := hL p q m cs kk) (L2 := L1 ++ L2) T
  exact S2.perm (by
    rw [← List.append_assoc, ← List.append_assoc]
    exact List.Perm.append_right _ List.perm_append_comm)
def spLParts (K : PySem.W.Frag) : Sp := fun vs H Q _ => ∃ (B : Hp) (p q : Addr) (m : Int) (cs : List Int) (kk mx : Int), vs = [.ref p, .int mx] ∧ 1 ≤ mx ∧ mx ≤ 12 ∧ Ok ⟨B, H, [p, q]⟩ B (hL p q m cs kk) H ∧ HS cs kk ∧
  ∀ r rs m' cs' kk' B' H', Ex B B' → MyBook rs → Fst rs → rs ≠ [] → (rs.length : Int) ≤ mx → Dp K B' r (.list (rs.map encRow)) → HS cs' kk' → Ok ⟨B, H, [p, q]⟩ B' (hL p q m' cs' kk') H' → Q r H'
section
variable {P : Program} {w : World} {K : PySem.W.Frag} {mg : Str → Option Value} {base : Heap}
theorem ok__law_parts {f : Addr} {fd : FuncData} (F : Fun K "_law_parts" "_law_parts" s__law_parts f fd) (G__law_next : FnG P w K mg base 1 "_law_next" ["_law_h", "_law_many"] spNext) (G__law_led : FnG P w K mg base 13 "_law_led" ["_law_rows", "_law_needs"] (spLL K 13))
    (n_range : mg "range" = none) (n_tuple : mg "tuple" = none) (n_sum : mg "sum" = none) : FnOk P w K mg base CX0 14 f fd ["_law_h", "_law_most"] (spLParts K) := by
  refine F.ok sc__law_parts (fun vs H Q E h => ?_) (fun cdv A outer s H vs Q E hr h => ?_)
  · obtain ⟨B, p, q, m, cs, kk, mx, rfl, _⟩ := h
    rfl
  · obtain ⟨B, p, q, m, cs, kk, mx, rfl, hx1, hx2, S, hS, k⟩ := h
    refine with_al (P := P) (w := w) (K := K) hr (fun al => ?_)
    refine ⟨_, (pss_cons (ps_asg (pe_lst pa_nil) (pg_name (i := 2) sc__law_parts.nd rfl (by first | exact Or.inl rfl | exact Or.inr rfl))) (pss_cons (ps_for PassesOwn.never rfl (pi_range1 (by rfl) n_range (pa_cons (pe_op (opU al) pe_int (pe_fn G__law_next (hr.mono (by first | decide | omega)) rfl (pa_cons (pv 0) (pa_cons (pv 1) pa_nil)))) pa_nil)) (pg_name (i := 3) sc__law_parts.nd rfl (by first | exact Or.inl rfl | exact Or.inr rfl)) (pss_cons (ps_setLc (i := 4) (own := [("_law_row", 5)]) al.calm sc__law_parts.nd rfl rfl (sw_true rfl rfl rfl (by decide +kernel)) (pi_val al (pv 2)) (blkOk_by (own := [("_law_row", 5)]) (N := ["_law_h", "_law_most", "_law_found", "_law_k", "_law_needs", "_law_row", "_law_steps", "_law_j", "_law_name"]) (sc := (defScope s__law_parts)) (by decide +kernel)) (fun _ _ _ _ _ => (pg_name (i := 5) sc__law_parts.nd rfl (by first | exact Or.inl rfl | exact Or.inr rfl))) (fun _ _ _ _ _ => pts_one (pt_cmpR (opU al) (pe_fn G__law_next (hr.mono (by first | decide | omega)) rfl (pa_cons (pv 0) (pa_cons pe_int pa_nil))) pe_int (nomark _))) (fun _ _ _ _ _ => (pe_tup (pa_cons (pe_ix (ixU al) (pv 5) pe_int (fun _ _ => rfl)) (pa_cons (pe_op (opU al) pe_int (pe_fn G__law_next (hr.mono (by first | decide | omega)) rfl (pa_cons (pv 0) (pa_cons pe_int pa_nil)))) pa_nil))))) (pss_cons (ps_cut (ps_asg (pe_ifExp (pt_cmpR (opU al) (pe_fn G__law_next (hr.mono (by first | decide | omega)) rfl (pa_cons (pv 0) (pa_cons pe_int pa_nil))) pe_int (nomark _)) (pe_revL (pv 4)) (pv 4)) (pg_name (i := 4) sc__law_parts.nd rfl (by first | exact Or.inl rfl | exact Or.inr rfl)))) (pss_cons (ps_asg (pe_callTy (callU al) (by rfl) n_tuple b_tuple (pa_cons (pe_lc (own := [("_law_j", 7)]) al.calm sc__law_parts.nd (pi_range1 (by rfl) n_range (pa_cons (pe_fn G__law_next (hr.mono (by first | decide | omega)) rfl (pa_cons (pv 0) (pa_cons pe_int pa_nil))) pa_nil)) (blkOk_by (own := [("_law_j", 7)]) (N := ["_law_h", "_law_most", "_law_found", "_law_k", "_law_needs", "_law_row", "_law_steps", "_law_j", "_law_name"]) (sc := (defScope s__law_parts)) (by decide +kernel)) (fun _ _ _ _ _ => (pg_name (i := 7) sc__law_parts.nd rfl (by first | exact Or.inl rfl | exact Or.inr rfl))) (fun _ _ _ _ _ => pts_nil) (fun _ _ _ _ _ => (pe_tup (pa_cons (pe_fn G__law_next (hr.mono (by first | decide | omega)) rfl (pa_cons (pv 0) (pa_cons (pe_ix (ixU al) (pe_lst (pa_cons pe_int (pa_cons pe_int pa_nil))) (pe_fn G__law_next (hr.mono (by first | decide | omega)) rfl (pa_cons (pv 0) (pa_cons pe_int pa_nil))) (fun _ _ => rfl)) pa_nil))) (pa_cons (pe_op (opU al) pe_int (pe_fn G__law_next (hr.mono (by first | decide | omega)) rfl (pa_cons (pv 0) (pa_cons pe_int pa_nil)))) pa_nil))))) pa_nil)) (pg_name (i := 6) sc__law_parts.nd rfl (by first | exact Or.inl rfl | exact Or.inr rfl))) (pss_cons (ps_cut (ps_if (PW.pt (pw_or (pt_cmpR (opU al) (pe_fn G__law_next (hr.mono (by first | decide | omega)) rfl (pa_cons (pv 0) (pa_cons pe_int pa_nil))) pe_int (nomark _)) (pw_or1 (pt_cmpR (opU al) (pv 3) pe_int (nomark _))))) (pss_one (ps_par (i := 4) (j := 6) al.calm sc__law_parts.nd rfl rfl (by decide) rfl rfl (pa_cons (pe_lst pa_nil) (pa_cons (pe_tup pa_nil) pa_nil)) (by rfl))) pss_nil)) (pss_cons (ps_cut (ps_if (pt_cmpR (opU al) (pe_sumVals al.calm (by rfl) n_sum (pe_fn G__law_led (hr.mono (by first | decide | omega)) rfl (pa_cons (pv 2) (pa_cons (pv 4) pa_nil)))) pe_int (nomark _)) (pss_one (ps_asg (pe_lst pa_nil) (pg_name (i := 4) sc__law_parts.nd rfl (by first | exact Or.inl rfl | exact Or.inr rfl)))) pss_nil)) (pss_cons (ps_asg (pe_op (opU al) pe_str (pe_ix (ixU al) pe_str (pv 3) (fun _ _ => rfl))) (pg_name (i := 8) sc__law_parts.nd rfl (by first | exact Or.inl rfl | exact Or.inr rfl))) (pss_one (ps_expr (pe_bmU K PySem.F.plainAttrs_list PySem.F.slot_list_append PySem.F.type_list_append (metU al) (pv 2) (pa_cons (pe_tup (pa_cons (pv 8) (pa_cons (pe_callTy (callU al) (by rfl) n_tuple b_tuple (pa_cons (pv 4) pa_nil)) (pa_cons (pv 6) (pa_cons (pe_op (opU al) pe_int (pe_fn G__law_next (hr.mono (by first | decide | omega)) rfl (pa_cons (pv 0) (pa_cons pe_int pa_nil)))) (pa_cons (pe_fn G__law_next (hr.mono (by first | decide | omega)) rfl (pa_cons (pv 0) (pa_cons pe_int pa_nil))) pa_nil)))))) pa_nil))))))))))) (pss_one (ps_ret (pv 2))))), ?_⟩
    repeat tb_start
    refine new_lst S (by decide) fun D H1 S1 => ?_
    repeat tb_start
    refine nextQ [(D, .lst [])] [] S1 hS (by omega) (by omega) fun n0 m1 cs1 kk1 H2 r0 r1 hS1 S2 => ?_
    repeat tb_start
    refine rngQ (by omega) (by omega) ?_
    refine forDS src_range S2 (fun i σ B1 L1 => ∃ x3 x4 x5 x6 x7 x8 rs acc m cs kk, σ = [some (.ref p), some (.int mx), some (.ref D), x3, x4, x5, x6, x7, x8] ∧ MyBook rs ∧ Fst rs ∧ rs.length = i ∧ DpAll K B1 acc (rs.map encRow) ∧ HS cs kk ∧ L1 = (D, .lst acc) :: hL p q m cs kk) (fun _ _ _ _ _ _ => True.intro) ?_ ?_ ?_
    · exact ⟨_, _, _, _, _, _, [], [], _, _, _, rfl, ⟨GoodBook.nil, fun i r h => by simp at h⟩, (fun r h => by simp at h), rfl, .nil, hS1, rfl⟩
    · rintro i i2 x σ B0 B1 L1 H3 hget ⟨_, _, _, _, _, _, rs, acc, m, cs, kk, rfl, M, hFst, hlen, hacc0, hS3, rfl⟩ e1 e2 S3 rfl
      have hacc := hacc0.up e2
      obtain ⟨hi, rfl⟩ : i < (1 + n0).toNat ∧ i2 = i := by
        have h1 := (List.getElem?_eq_some_iff.mp hget).1
        rw [List.length_range] at h1
        refine ⟨h1, ?_⟩
        rw [List.getElem?_range h1] at hget
        exact (Option.some.inj hget).symm
      have hi12 : rs.length < 12 := by omega
      have hz : (0 : Int) + (i2 : Nat) = (rs.length : Int) := by omega
      rw [hz]
      generalize hzz : (rs.length : Int) = z
      repeat tb_start
      refine ItU.list (S3.sqMem (.head _)) (lcD (src_lst (xs := acc) (as := rs) (enc := encRow)) S3 (fun j acc2 B2 L2 => ∃ (ns : List (Str × Int)) (m : Int) (cs : List Int) (kk : Int), L2 = (D, .lst acc) :: hL p q m cs kk ∧ Ex B1 B2 ∧ HS cs kk ∧ DpAll K B2 acc2 (ns.map encNeed) ∧ (ns.map (·.1)).Sublist ((rs.take j).map (·.name)) ∧ ∀ x ∈ ns, 1 ≤ x.2 ∧ x.2 ≤ 9) ?_ ?_ ?_ ?_)
      · exact ⟨[], _, _, _, rfl, Ex.refl _, hS3, .nil, List.Sublist.refl _, fun _ h => nomatch h⟩
      · rintro j acc2 B2 L2 D2 _ ⟨ns, m, cs, kk, rfl, e3, _⟩
        exact ⟨.inr (.tail _ (.head _)), hacc.up e3⟩
      · rintro j r xv acc2 B2 B4 L2 D2 H4 hgr ⟨ns, m, cs, kk, rfl, e3, hS4, hacc2, hsub, hmany⟩ e4 S4 hr0
        have hlen2 : acc2.length < sizeLine := by
          have h1 := hacc2.length
          have h2 := hsub.length_le
          rw [List.length_map] at h1
          rw [List.length_map, List.length_map, List.length_take] at h2
          rw [sizeLine_eq]
          omega
        repeat tb_start
        refine ⟨rfl, ?_⟩
        repeat tb_start
        refine nextQ [(D2, .lst acc2), (D, .lst acc)] [] S4 hS4 (by decide) (by decide) fun r1 m1 cs1 kk1 H5 q0 q1 hS5 S5 => ?_
        repeat tb_start
        refine ifd (fun hh => ?_) (fun hh => ?_)
        · repeat tb_start
          refine v_ixDT (j := 0) S5 hr0 rfl rfl fun u hu => ?_
          obtain rfl := hu.str_inv
          repeat tb_start
          refine nextQ [(D2, .lst acc2), (D, .lst acc)] [] S5 hS5 (by decide) (by decide) fun r2 m2 cs2 kk2 H6 q2 q3 hS6 S6 => ?_
          repeat tb_start
          refine new_tupD (K := K) S6 (.cons (.str _) (.cons (.int _) .nil)) (by simp) fun t B7 H7 e7 S7 ht => ?_
          refine Acc.mk S7 hlen2 ⟨ns ++ [(r.name, 1 + r2)], m2, cs2, kk2, rfl, e3.trans (e4.trans e7), hS6, ?_, ?_, ?_⟩
          · rw [List.map_append]
            exact ((hacc2.up e4).up e7).append (.cons ht .nil)
          · rw [List.map_append, take_succ_map hgr]
            exact hsub.append (List.Sublist.refl _)
          · intro y hy
            rcases List.mem_append.mp hy with hy | hy
            · exact hmany y hy
            · rw [List.mem_singleton] at hy
              subst hy
              show 1 ≤ 1 + r2 ∧ 1 + r2 ≤ 9
              omega
        · refine Skp.mk S5 ⟨ns, m1, cs1, kk1, rfl, e3.trans e4, hS5, hacc2.up e4, ?_, hmany⟩
          rw [take_succ_map hgr]
          exact hsub.trans (List.sublist_append_left _ _)
      · rintro acc2 B2 L2 D2 H4 ⟨ns, m, cs, kk, rfl, e3, hS4, hacc2, hsub, hmany⟩ S4
        obtain ⟨B5, e5, S5, hns⟩ := S4.toData hacc2
        rw [List.take_length] at hsub
        have NO : NsOk rs ns := ⟨M.good.nd.sublist hsub, fun x hx => hsub.subset (List.mem_map.mpr ⟨x, hx, rfl⟩), hmany⟩
        repeat tb_start
        refine cutS (PSn K ⟨B, H, [p, q]⟩ B1 p q D acc rs z mx) ?_ ?_
        · repeat tb_start
          refine nextQ [(D, .lst acc)] [] S5 hS4 (by decide) (by decide) fun r1 m1 cs1 kk1 H5 q0 q1 hS6 S6 => ?_
          repeat tb_start
          refine ifd (fun hh => ?_) (fun hh => ?_)
          · repeat tb_start
            refine revD S6 hns fun r B7 H7 e7 S7 h7 => ?_
            repeat tb_start
            exact ⟨_, ns.reverse, _, _, _, _, _, _, _, _, rfl, S7, e3.trans (e5.trans e7), hS6, by rw [List.map_reverse]; exact h7, NO.rev⟩
          · repeat tb_start
            exact ⟨_, ns, _, _, _, _, _, _, _, _, rfl, S6, e3.trans e5, hS6, hns, NO⟩
        · clear S5 hS4 NO hns hsub hmany hacc2 S4 e5 e3
          rintro σ6 H6 ⟨vn, ns, x5, x6, x7, x8, m, cs, kk, B6, rfl, S6, e6, hS6, hvn, NO⟩
          repeat tb_start
          refine nextQ [(D, .lst acc)] [] S6 hS6 (by decide) (by decide) fun r1 m1 cs1 kk1 H5 q0 q1 hS7 S7 => ?_
          repeat tb_start
          refine rngQ (by omega) (by omega) ?_
          refine lcD src_range S7 (fun j acc2 B2 L2 => ∃ (st : List (Int × Int)) (m : Int) (cs : List Int) (kk : Int), L2 = (D, .lst acc) :: hL p q m cs kk ∧ Ex B6 B2 ∧ HS cs kk ∧ DpAll K B2 acc2 (st.map encStep) ∧ st.length = j ∧ ∀ x ∈ st, (0 ≤ x.1 ∧ x.1 < 6) ∧ 1 ≤ x.2 ∧ x.2 ≤ 99) ?_ (fun _ _ _ _ _ _ _ => True.intro) ?_ ?_
          · exact ⟨[], _, _, _, rfl, Ex.refl _, hS7, .nil, rfl, fun _ h => nomatch h⟩
          · rintro j j2 xv acc2 B2 B4 L2 D2 H8 hgr ⟨st, m, cs, kk, rfl, e3, hS4, hacc2, hl2, hst⟩ e4 S4 rfl
            have hjl : j < 4 := by
              have h1 := (List.getElem?_eq_some_iff.mp hgr).1
              rw [List.length_range] at h1
              omega
            repeat tb_start
            refine ⟨rfl, ?_⟩
            repeat tb_start
            refine new_lst S4 (by decide) fun D3 H9 S9 => ?_
            repeat tb_start
            refine nextQ [(D3, .lst [.int 6, .int 2]), (D2, .lst acc2), (D, .lst acc)] [] S9 hS4 (by decide) (by decide) fun r2 m2 cs2 kk2 H10 q2 q3 hS10 S10 => ?_
            obtain ⟨w, hw, w1, w2⟩ : ∃ w : Int, atI [V.int 6, V.int 2] r2 = some (.int w) ∧ 0 < w ∧ w ≤ 6 := by
              have : r2 = 0 ∨ r2 = 1 := by omega
              rcases this with rfl | rfl
              · exact ⟨6, rfl, by decide, by decide⟩
              · exact ⟨2, rfl, by decide, by decide⟩
            refine v_ixL (xs := [V.int 6, V.int 2]) (S10.sqMem (.head _)) hw ?_
            repeat tb_start
            refine nextQ [(D2, .lst acc2), (D, .lst acc)] [] S10.drop hS10 w1 (by omega) fun r3 m3 cs3 kk3 H11 q4 q5 hS11 S11 => ?_
            repeat tb_start
            refine nextQ [(D2, .lst acc2), (D, .lst acc)] [] S11 hS11 (by decide) (by decide) fun r4 m4 cs4 kk4 H12 q6 q7 hS12 S12 => ?_
            repeat tb_start
            refine new_tupD (K := K) S12 (.cons (.int _) (.cons (.int _) .nil)) (by simp) fun t B7 H7 e7 S13 ht => ?_
            have hl3 := hacc2.length
            rw [List.length_map] at hl3
            refine Acc.mk S13 (by rw [sizeLine_eq]; omega) ⟨st ++ [(r3, 1 + r4)], _, _, _, rfl, e3.trans (e4.trans e7), hS12, ?_, ?_, ?_⟩
            · rw [List.map_append]
              exact ((hacc2.up e4).up e7).append (.cons ht .nil)
            · rw [List.length_append, hl2]; rfl
            · intro y hy
              rcases List.mem_append.mp hy with hy | hy
              · exact hst y hy
              · rw [List.mem_singleton] at hy
                subst hy
                show (0 ≤ r3 ∧ r3 < 6) ∧ 1 ≤ 1 + r4 ∧ 1 + r4 ≤ 99
                omega
          · rintro acc2 B2 L2 D2 H8 ⟨st, m, cs, kk, rfl, e3, hS4, hacc2, hl2, hst⟩ S4
            rw [List.length_range] at hl2
            obtain ⟨B9, e9, S9, hst9⟩ := S4.toData hacc2
            have SO : StOk st := ⟨by omega, hst⟩
            repeat tb_start
            refine v_tupD S9 hst9 fun vs B10 H10 e10 S10 hvs => ?_
            have hvn10 := ((hvn.up e3).up e9).up e10
            have e11 := e6.trans (e3.trans (e9.trans e10))
            clear hvn S9 hst9 S4 hacc2 e9 e10 e3 S7 S6 e6
            repeat tb_start
            refine cutS (PSt K ⟨B, H, [p, q]⟩ B1 p q D acc rs z mx fun _ => True) ?_ ?_
            · repeat tb_start
              refine nextQ [(D, .lst acc)] [] S10 hS4 (by decide) (by decide) fun r2 m2 cs2 kk2 H11 q2 q3 hS11 S11 => ?_
              repeat tb_start
              refine ifd (fun hh => ?_) (fun hh => ?_)
              · repeat tb_start
                refine new_lst S11 (by decide) fun D4 H12 S12 => ?_
                repeat tb_start
                refine new_tupD (K := K) S12 .nil (by simp) fun t B13 H13 e13 S13 ht => ?_
                obtain ⟨B14, e14, S14, hD4⟩ := S13.toData (K := K) (ds := []) .nil
                repeat tb_start
                exact ⟨_, [], _, [], _, _, _, _, _, _, _, rfl, S14, e11.trans (e13.trans e14), hS11, hD4, NsOk.nil rs, ht.up e14, ⟨by decide, fun _ h => nomatch h⟩, (fun _ => rfl), trivial⟩
              · repeat tb_start
                refine ifd (fun hh2 => ?_) (fun hh2 => ?_)
                · repeat tb_start
                  refine new_lst S11 (by decide) fun D4 H12 S12 => ?_
                  repeat tb_start
                  refine new_tupD (K := K) S12 .nil (by simp) fun t B13 H13 e13 S13 ht => ?_
                  obtain ⟨B14, e14, S14, hD4⟩ := S13.toData (K := K) (ds := []) .nil
                  repeat tb_start
                  exact ⟨_, [], _, [], _, _, _, _, _, _, _, rfl, S14, e11.trans (e13.trans e14), hS11, hD4, NsOk.nil rs, ht.up e14, ⟨by decide, fun _ h => nomatch h⟩, (fun _ => rfl), trivial⟩
                · repeat tb_start
                  exact ⟨_, ns, _, st, _, _, _, _, _, _, _, rfl, S11, e11, hS11, hvn10, NO, hvs, SO, (fun h => absurd h hh2), trivial⟩
            · clear hvn10 hvs SO NO S10 hS4 e11 hst
              rintro σ7 H11 ⟨vn, ns, vs, st, x5, x7, x8, m, cs, kk, B11, rfl, S11, e11, hS11, hvn, NO, hvs, SO, hst0, _⟩
              have glen := M.good.len
              repeat tb_start
              refine cutS (PSt K ⟨B, H, [p, q]⟩ B1 p q D acc rs z mx fun ns => ((lawLed rs 12 ns).map (·.2)).sum ≤ 200) ?_ ?_
              · repeat tb_start
                have hacc11 := hacc.up e11
                refine ⟨B11, D, acc, vn, _, rs, ns, rfl, S11.ex, S11.sqMem (.head _), hacc11, hvn, .inl rfl, M.good, fun x hx => by rw [List.take_of_length_le (by omega)]; exact NO.known x hx, NO.many, by have := NO.len; omega, fun D2 H12 T12 => ?_⟩
                have S12 := S11.callN T12
                refine sumQ (S12.rdMem (.head _)) (kvI_vals _) ?_
                have S13 := S12.drop
                repeat tb_start
                refine ifd (fun hh => ?_) (fun hh => ?_)
                · repeat tb_start
                  refine new_lst S13 (by decide) fun D4 H14 S14 => ?_
                  obtain ⟨B15, e15, S15, hD4⟩ := S14.toData (K := K) (ds := []) .nil
                  repeat tb_start
                  exact ⟨_, [], _, st, _, _, _, _, _, _, _, rfl, S15, e11.trans e15, hS11, hD4, NsOk.nil rs, hvs.up e15, SO, hst0, (by show (0 : Int) ≤ 200; decide)⟩
                · repeat tb_start
                  exact ⟨_, ns, _, st, _, _, _, _, _, _, _, rfl, S13, e11, hS11, hvn, NO, hvs, SO, hst0, Int.le_trans (Int.not_lt.mp hh) (by decide)⟩
              · clear hvn NO hvs SO S11 hS11 e11 hst0
                rintro σ8 H12 ⟨vn, ns, vs, st, x5, x7, x8, m, cs, kk, B12, rfl, S12, e12, hS12, hvn, NO, hvs, SO, hst0, hsum⟩
                repeat tb_start
                have hc : atI signs12.cps.toList z = some (signs12.cps.toList.getD rs.length 0) := by
                  rw [← hzz]
                  refine atI_nat ?_
                  rw [List.getD_eq_getElem?_getD, List.getElem?_eq_getElem (show rs.length < signs12.cps.toList.length from hi12)]
                  rfl
                refine v_ixS (z := signs12) (by decide +kernel) hc ?_
                refine v_addS (by rw [sizeLine_eq]; show 1 + 1 ≤ _; omega) ?_
                repeat tb_start
                refine v_tupD S12 hvn fun vt B13 H13 e13 S13 hvt => ?_
                repeat tb_start
                refine nextQ [(D, .lst acc)] [] S13 hS12 (by decide) (by decide) fun r1 m1 cs1 kk1 H14 q0 q1 hS14 S14 => ?_
                repeat tb_start
                refine nextQ [(D, .lst acc)] [] S14 hS14 (by decide) (by decide) fun r2 m2 cs2 kk2 H15 q2 q3 hS15 S15 => ?_
                repeat tb_start
                refine new_tupD (K := K) S15 (.cons (.str (nameAt rs.length)) (.cons hvt (.cons (hvs.up e13) (.cons (.int (1 + r1)) (.cons (.int r2) .nil))))) (by simp) fun t B16 H16 e16 S16 ht => ?_
                have hla := hacc.length
                rw [List.length_map] at hla
                refine v_appendN 0 S16 rfl (by rw [sizeLine_eq]; omega) fun H17 S17 => ?_
                repeat tb_start
                refine NxE.mk' S17 (e1.trans (e2.trans (e12.trans (e13.trans e16)))) ?_
                refine ⟨_, _, _, _, _, _, rs ++ [⟨nameAt rs.length, ns, st, 1 + r1, r2⟩], _, _, _, _, rfl, M.snoc hi12 rfl (by show 1 ≤ 1 + r1 ∧ 1 + r1 ≤ 99; omega) (by show 0 ≤ r2 ∧ r2 ≤ 30; omega) NO.nd NO.known NO.many SO.1 SO.2 (n := 12) (by omega) hsum, ?_, by rw [List.length_append, hlen]; rfl, ?_, hS15, rfl⟩
                · intro r hr
                  cases hrs : rs with
                  | nil =>
                    rw [hrs] at hr hzz
                    obtain rfl : _ = r := Option.some.inj hr
                    exact hst0 (by rw [← hzz]; rfl)
                  | cons a t =>
                    rw [hrs] at hr hFst
                    exact hFst r hr
                rw [List.map_append]
                exact (((hacc.up e12).up e13).up e16).append (.cons ht .nil)
    · rintro σ B1 L1 H3 ⟨_, _, _, _, _, _, rs, acc, m, cs, kk, rfl, M, hFst, hlen, hacc, hS3, rfl⟩ e1 S3
      rw [List.length_range] at hlen
      repeat tb_start
      obtain ⟨B4, e4, S4, hD⟩ := S3.toData hacc
      exact k _ rs _ _ _ _ _ (e1.trans e4) M hFst (by intro z; rw [z] at hlen; simp at hlen; omega) (by omega) hD hS3 S4
end
end LW

namespace LW
open PySem PySem.Spec PyProof.Rows L2 WK PM
abbrev s_written : Stmt := topS 28
theorem sc_written : FnScope ["parts", "rows", "name", "needs", "steps", "lot", "lead", "part", "many", "machine", "minutes"] ["parts"] (defScope s_written) := ⟨rfl, rfl, rfl, by decide +kernel, rfl, by decide +kernel, by decide +kernel⟩
def spWritten (K : PySem.W.Frag) : Sp := fun vs H Q _ => ∃ (B : Hp) (v : V) (rs : List PRow), vs = [v] ∧ Ex B H ∧ Dpl K B v (rs.map encRow) ∧ GoodBook rs ∧ ∀ B' H', Ok ⟨B, H, []⟩ B' [] H' → Q (.str (textOf rs)) H'
section
variable {P : Program} {w : World} {K : PySem.W.Frag} {mg : Str → Option Value} {base : Heap}
theorem ok_written {f CP : Addr} {fd : FuncData} (F : Fun K "written" "written" s_written f fd) (G_Parts : MkG P w K mg base 3 CP "Parts" ["self", "told"] (spPInit K CP)) (n_str : mg "str" = none)
    (c_PART : GlS mg "PART" "part") (c_NEED : GlS mg "NEED" "need") (c_STEP : GlS mg "STEP" "step") : FnOk P w K mg base CX0 5 f fd ["parts"] (spWritten K) := by
  refine F.ok sc_written (fun vs H Q E h => ?_) (fun cdv A outer s H vs Q E hr h => ?_)
  · obtain ⟨B, v, rs, rfl, _⟩ := h
    rfl
  · obtain ⟨B, v, rs, rfl, ex, hv, G, k⟩ := h
    have S := Ok.start0 ex
    have glen := G.len
    refine with_al (P := P) (w := w) (K := K) hr (fun al => ?_)
    refine ⟨_, (pss_cons (ps_expr (pe_mk G_Parts (hr.mono (by first | decide | omega)) rfl (pa_cons (pv 0) pa_nil))) (pss_cons (ps_asg (pe_lst pa_nil) (pg_name (i := 1) sc_written.nd rfl (by first | exact Or.inl rfl | exact Or.inr rfl))) (pss_cons (ps_for PassesOwn.never rfl (pi_val al (pv 0)) (pg_tupU (n := 5) K (pgs_cons (pg_name (i := 2) sc_written.nd rfl (by first | exact Or.inl rfl | exact Or.inr rfl)) (pgs_cons (pg_name (i := 3) sc_written.nd rfl (by first | exact Or.inl rfl | exact Or.inr rfl)) (pgs_cons (pg_name (i := 4) sc_written.nd rfl (by first | exact Or.inl rfl | exact Or.inr rfl)) (pgs_cons (pg_name (i := 5) sc_written.nd rfl (by first | exact Or.inl rfl | exact Or.inr rfl)) (pgs_cons (pg_name (i := 6) sc_written.nd rfl (by first | exact Or.inl rfl | exact Or.inr rfl)) pgs_nil)))))) (pss_cons (ps_expr (pe_bmU K PySem.F.plainAttrs_list PySem.F.slot_list_append PySem.F.type_list_append (metU al) (pv 1) (pa_cons (pe_bmU K PySem.F.plainAttrs_str PySem.F.slot_str_join PySem.F.type_str_join (metU al) pe_str (pa_cons (pe_lst (pa_cons (pe_gs c_PART rfl) (pa_cons (pv 2) (pa_cons (pe_callTy (callU al) (by rfl) n_str b_str (pa_cons (pv 5) pa_nil)) (pa_cons (pe_callTy (callU al) (by rfl) n_str b_str (pa_cons (pv 6) pa_nil)) pa_nil))))) pa_nil)) pa_nil))) (pss_cons (ps_expr (pe_bmU K PySem.F.plainAttrs_list PySem.F.slot_list_extend PySem.F.type_list_extend (metU al) (pv 1) (pa_cons (pe_lc (own := [("part", 7), ("many", 8)]) al.calm sc_written.nd (pi_val al (pv 3)) (blkOk_by (own := [("part", 7), ("many", 8)]) (N := ["parts", "rows", "name", "needs", "steps", "lot", "lead", "part", "many", "machine", "minutes"]) (sc := (defScope s_written)) (by decide +kernel)) (fun _ _ _ _ _ => (pg_tupU (n := 2) K (pgs_cons (pg_name (i := 7) sc_written.nd rfl (by first | exact Or.inl rfl | exact Or.inr rfl)) (pgs_cons (pg_name (i := 8) sc_written.nd rfl (by first | exact Or.inl rfl | exact Or.inr rfl)) pgs_nil)))) (fun _ _ _ _ _ => pts_nil) (fun _ _ _ _ _ => (pe_bmU K PySem.F.plainAttrs_str PySem.F.slot_str_join PySem.F.type_str_join (metU al) pe_str (pa_cons (pe_lst (pa_cons (pe_gs c_NEED rfl) (pa_cons (pv 7) (pa_cons (pe_callTy (callU al) (by rfl) n_str b_str (pa_cons (pv 8) pa_nil)) pa_nil)))) pa_nil)))) pa_nil))) (pss_one (ps_expr (pe_bmU K PySem.F.plainAttrs_list PySem.F.slot_list_extend PySem.F.type_list_extend (metU al) (pv 1) (pa_cons (pe_lc (own := [("machine", 9), ("minutes", 10)]) al.calm sc_written.nd (pi_val al (pv 4)) (blkOk_by (own := [("machine", 9), ("minutes", 10)]) (N := ["parts", "rows", "name", "needs", "steps", "lot", "lead", "part", "many", "machine", "minutes"]) (sc := (defScope s_written)) (by decide +kernel)) (fun _ _ _ _ _ => (pg_tupU (n := 2) K (pgs_cons (pg_name (i := 9) sc_written.nd rfl (by first | exact Or.inl rfl | exact Or.inr rfl)) (pgs_cons (pg_name (i := 10) sc_written.nd rfl (by first | exact Or.inl rfl | exact Or.inr rfl)) pgs_nil)))) (fun _ _ _ _ _ => pts_nil) (fun _ _ _ _ _ => (pe_bmU K PySem.F.plainAttrs_str PySem.F.slot_str_join PySem.F.type_str_join (metU al) pe_str (pa_cons (pe_lst (pa_cons (pe_gs c_STEP rfl) (pa_cons (pe_callTy (callU al) (by rfl) n_str b_str (pa_cons (pv 9) pa_nil)) (pa_cons (pe_callTy (callU al) (by rfl) n_str b_str (pa_cons (pv 10) pa_nil)) pa_nil)))) pa_nil)))) pa_nil))))))) (pss_one (ps_ret (pe_bmU K PySem.F.plainAttrs_str PySem.F.slot_str_join PySem.F.type_str_join (metU al) pe_str (pa_cons (pv 1) pa_nil))))))), ?_⟩
    repeat tb_start
    refine mkQ S fun p dx H1 S1 => ?_
    refine ⟨B, p, dx, v, rs, rfl, S1.sub (L1 := [_]), hv, G, fun a l rkv lkv B2 H2 e2 RK LK T2 => retQ ?_⟩
    have S2 := (S1.call (L1 := [_]) (L2 := []) T2).drop.drop.drop
    repeat tb_start
    refine new_lst S2 (by decide) fun D H3 S3 => ?_
    repeat tb_start
    refine forDW S3 (hv.up e2) (fun i σ B1 L1 => ∃ x2 x3 x4 x5 x6 x7 x8 x9 x10, σ = [some v, some (.ref D), x2, x3, x4, x5, x6, x7, x8, x9, x10] ∧ L1 = [(D, .lst (((rs.take i).flatMap rowLines).map V.str))]) ?_ ?_ ?_
    · exact ⟨_, _, _, _, _, _, _, _, _, rfl, rfl⟩
    · rintro i r xv σ B3 B4 L4 H4 hr0 ⟨_, _, _, _, _, _, _, _, _, rfl, rfl⟩ e3 e4 S4 hxv
      have R := G.row i r hr0
      obtain ⟨lo1, lo2⟩ := R.lot
      obtain ⟨le1, le2⟩ := R.lead
      have hfl : ((rs.take i).flatMap rowLines).length ≤ 216 := by
        have := flat_len (rs := rs.take i) fun x hx => G.lines18 x (List.mem_of_mem_take hx)
        rw [List.length_take] at this
        omega
      refine r_gtupRow S4 hxv fun v2 v3 h2 h3 => ?_
      repeat tb_start
      refine v_strI (log2_small (by omega) (by omega)) ?_
      repeat tb_start
      refine v_strI (log2_small (by omega) (by omega)) ?_
      repeat tb_start
      refine new_lst S4 (by show 4 ≤ sizeLine; decide) fun D5 H5 S5 => ?_
      repeat tb_start
      refine v_joinL (ys := ["part", r.name, numS r.lot, numS r.lead]) (S5.sqMem (.head _)) (part_sum R) ?_
      have S6 := S5.drop
      repeat tb_start
      refine v_appendN 0 S6 rfl (by rw [List.length_map, sizeLine_eq]; omega) fun H7 S7 => ?_
      repeat tb_start
      refine lcPureT S7 h2 (fun _ => true) (fun x => .str (needLine x)) (by have := G.lines18 r (List.mem_of_getElem? hr0); unfold rowLines at this; rw [List.length_cons, List.length_append, List.length_map, List.length_map] at this; omega) ?_ ?_
      · rintro x xv2 B8 D8 acc H8 C Cs hx e8 S8 hxv2 kC kS
        obtain ⟨m1, m2⟩ := R.many x hx
        repeat tb_start
        refine r_gtupSI S8 hxv2 ?_
        repeat tb_start
        refine ⟨rfl, ?_⟩
        repeat tb_start
        refine v_strI (log2_small (by omega) (by omega)) ?_
        repeat tb_start
        refine new_lst S8 (by show 3 ≤ sizeLine; decide) fun D9 H9 S9 => ?_
        repeat tb_start
        refine v_joinL (ys := ["need", x.1, numS x.2]) (S9.sqMem (.head _)) (need_sum (R.known x hx) m1 m2 G hr0) ?_
        exact kC _ _ _ rfl (Ex.refl _) S9.drop (.str _)
      · intro D8 acc8 B8 H8 e8 S8 hacc8
        rw [filter_tt, show r.needs.map (fun x => PyData.str (needLine x)) = (r.needs.map needLine).map PyData.str by rw [List.map_map]; rfl] at hacc8
        obtain rfl := hacc8.strs
        have hnl := G.lines18 r (List.mem_of_getElem? hr0)
        unfold rowLines at hnl
        rw [List.length_cons, List.length_append, List.length_map, List.length_map] at hnl
        repeat tb_start
        refine v_extendN 1 S8 rfl (S8.own _ (.head _)).1 (by simp only [List.length_map, List.length_append, List.length_cons, List.length_nil]; rw [sizeLine_eq]; omega) fun H9 S9 => ?_
        have S10 := (show Ok _ B8 [(D8, .lst ((r.needs.map needLine).map V.str)), (D, .lst (((((rs.take i).flatMap rowLines).map V.str) ++ [.str (partLine r)]) ++ (r.needs.map needLine).map V.str))] H9 from S9).drop
        have h3' := h3.up e8
        clear S9 S8
        repeat tb_start
        refine lcPureT S10 h3' (fun _ => true) (fun x => .str (stepLine x)) (by omega) ?_ ?_
        · rintro x xv2 B11 D11 acc H11 C Cs hx e11 S11 hxv2 kC kS
          obtain ⟨⟨m1, m2⟩, m3, m4⟩ := R.steps x hx
          repeat tb_start
          refine r_gtupII S11 hxv2 ?_
          repeat tb_start
          refine ⟨rfl, ?_⟩
          repeat tb_start
          refine v_strI (log2_small (by omega) (by omega)) ?_
          repeat tb_start
          refine v_strI (log2_small (by omega) (by omega)) ?_
          repeat tb_start
          refine new_lst S11 (by show 3 ≤ sizeLine; decide) fun D12 H12 S12 => ?_
          repeat tb_start
          refine v_joinL (ys := ["step", numS x.1, numS x.2]) (S12.sqMem (.head _)) (step_sum ⟨⟨m1, m2⟩, m3, m4⟩) ?_
          exact kC _ _ _ rfl (Ex.refl _) S12.drop (.str _)
        · intro D11 acc11 B11 H11 e11 S11 hacc11
          rw [filter_tt, show r.steps.map (fun x => PyData.str (stepLine x)) = (r.steps.map stepLine).map PyData.str by rw [List.map_map]; rfl] at hacc11
          obtain rfl := hacc11.strs
          repeat tb_start
          refine v_extendN 1 S11 rfl (S11.own _ (.head _)).1 (by simp only [List.length_map, List.length_append, List.length_cons, List.length_nil]; rw [sizeLine_eq]; omega) fun H12 S12 => ?_
          have S13 := (show Ok _ B11 [(D11, .lst ((r.steps.map stepLine).map V.str)), (D, .lst ((((((rs.take i).flatMap rowLines).map V.str) ++ [.str (partLine r)]) ++ (r.needs.map needLine).map V.str) ++ (r.steps.map stepLine).map V.str))] H12 from S12).drop
          repeat tb_start
          refine NxE.mk' S13 (e3.trans (e4.trans (e8.trans e11))) ?_
          refine ⟨_, _, _, _, _, _, _, _, _, rfl, ?_⟩
          rw [List.take_add_one, hr0, List.flatMap_append, List.map_append]
          simp only [Option.toList_some, List.flatMap_cons, List.flatMap_nil, List.append_nil, rowLines, List.map_cons, List.map_append, List.append_assoc, List.cons_append, List.nil_append]
    · rintro σ B3 L4 H4 ⟨_, _, _, _, _, _, _, _, _, rfl, rfl⟩ e3 S4
      rw [List.take_length] at S4
      repeat tb_start
      refine v_joinL (ys := rs.flatMap rowLines) (S4.sqMem (.head _)) (text_sum G) ?_
      exact k _ _ S4.drop
end
end LW

namespace LW
open PySem PySem.Spec PyProof.Rows L2 WK PM
abbrev s_number_in : Stmt := topS 29
theorem sc_number_in : FnScope ["word"] ["word"] (defScope s_number_in) := ⟨rfl, rfl, rfl, by decide +kernel, rfl, by decide +kernel, by decide +kernel⟩
def spNumberIn : Sp := fun vs H Q _ => ∃ (i : Int), vs = [.str (numS i)] ∧ 0 ≤ i ∧ i < 100 ∧ Q (.int i) H
section
variable {P : Program} {w : World} {K : PySem.W.Frag} {mg : Str → Option Value} {base : Heap}
theorem ok_number_in {f : Addr} {fd : FuncData} (F : Fun K "number_in" "number_in" s_number_in f fd) (n_len : mg "len" = none) (n_int : mg "int" = none) (c_FIGURES : GlS mg "FIGURES" figs) : FnOk P w K mg base CX0 1 f fd ["word"] spNumberIn := by
  refine F.ok sc_number_in (fun vs H Q E h => ?_) (fun cdv A outer s H vs Q E hr h => ?_)
  · obtain ⟨i, rfl, _⟩ := h
    rfl
  · obtain ⟨i, rfl, h0, h1, k⟩ := h
    obtain ⟨⟨l1, l2⟩, st, it, z0⟩ := num_fact ⟨i.toNat, by omega⟩
    have hi : (((⟨i.toNat, by omega⟩ : Fin 100).val : Nat) : Int) = i := by show ((i.toNat : Nat) : Int) = i; omega
    rw [hi] at l1 l2 st it z0
    refine with_al (P := P) (w := w) (K := K) hr (fun al => ?_)
    refine ⟨_, (pss_cons (ps_if (PW.pt (pw_or (pt_not (pt_chain (opU al) (opU al) pe_int (pe_callB (callU al) (by rfl) n_len b_len (pa_cons (pv 0) pa_nil)) pe_int)) (pw_or (pt_cmpR (opU al) (pe_bmU K PySem.F.plainAttrs_str PySem.F.slot_str_strip PySem.F.type_str_strip (metU al) (pv 0) (pa_cons (pe_gs c_FIGURES rfl) pa_nil)) pe_str (nomark _)) (pw_or1 (PW.pt (pw_and (pt_cmpR (opU al) (pe_ix (ixU al) (pv 0) pe_int (fun _ _ => rfl)) pe_str (nomark _)) (pw_and1 (pt_cmpR (opU al) (pv 0) pe_str (nomark _))))))))) (pss_one (ps_ret (pe_un un_neg pe_int))) pss_nil) (pss_one (ps_ret (pe_callTy (callU al) (by rfl) n_int b_int (pa_cons (pv 0) pa_nil))))), ?_⟩
    repeat tb_start
    refine v_stripS (by rw [sizeLine_eq]; omega) ?_
    rw [st]
    repeat tb_start
    refine ifndT rfl ?_
    repeat tb_start
    have hlen : (numS i).cps.toList.length = (numS i).length := Array.length_toList
    have hc : atI (numS i).cps.toList 0 = some ((numS i).cps.toList.getD 0 0) := by
      refine atI_nat (j := 0) ?_
      rw [List.getD_eq_getElem?_getD, List.getElem?_eq_getElem (by omega)]
      rfl
    refine v_ixS (by rw [sizeLine_eq]; omega) hc ?_
    repeat tb_start
    refine ifd (fun hh => ?_) (fun hh => ?_)
    · have h48 : (numS i).cps.toList.getD 0 0 = 48 := by
        have e1 : (⟨#[(numS i).cps.toList.getD 0 0]⟩ : Str) = ⟨#[48]⟩ := hh
        have e2 := congrArg (fun z : Str => z.cps.toList) e1
        simpa using e2
      have e0 := z0 h48
      repeat tb_start
      refine v_intS it (by omega) ?_
      exact k
    · repeat tb_start
      refine v_intS it (by omega) ?_
      exact k
end
end LW

namespace LW
open PySem PySem.Spec PyProof.Rows L2 WK PM
abbrev s_Reader___init__ : Stmt := inClass (topS 30) 0
theorem sc_Reader___init__ : FnScope ["self"] ["self"] (defScope s_Reader___init__) := ⟨rfl, rfl, rfl, by decide +kernel, rfl, by decide +kernel, by decide +kernel⟩
abbrev s_Reader_does_take : Stmt := inClass (topS 30) 1
theorem sc_Reader_does_take : FnScope ["self", "words", "word", "rest", "lot", "lead", "second"] ["self", "words"] (defScope s_Reader_does_take) := ⟨rfl, rfl, rfl, by decide +kernel, rfl, by decide +kernel, by decide +kernel⟩
def spRInit (CR : Addr) : Sp := fun vs H Q _ => ∃ (B : Hp) (p dx : Addr), vs = [.ref p] ∧ Ok ⟨B, H, [p]⟩ B [(p, .ins CR dx [])] H ∧ ∀ a H', Ok ⟨B, H, [p]⟩ B [(a, .lst []), (p, .ins CR dx [("rows", .ref a)])] H' → Q .non H'
section
variable {P : Program} {w : World} {K : PySem.W.Frag} {mg : Str → Option Value} {base : Heap}
theorem ok_reader_init {f CR : Addr} {fd : FuncData} (F : Fun K "__init__" "Reader.__init__" s_Reader___init__ f fd) (clR : Cls K CR) (nRows : NoAttr K CR "rows") : FnOk P w K mg base CX0 1 f fd ["self"] (spRInit CR) := by
  refine F.ok sc_Reader___init__ (fun vs H Q E h => ?_) (fun cdv A outer s H vs Q E hr h => ?_)
  · obtain ⟨B, p, dx, rfl, _⟩ := h
    rfl
  · obtain ⟨B, p, dx, rfl, S, k⟩ := h
    refine with_al (P := P) (w := w) (K := K) hr (fun al => ?_)
    refine ⟨_, (pss_one (ps_fldK K (pv 0) (pe_lst pa_nil) rfl)), ?_⟩
    repeat tb_start
    refine new_lst S (by decide) fun a H1 S1 => ?_
    repeat tb_start
    refine sfdQ 1 S1 rfl clR nRows (by decide) rfl fun H2 S2 => ?_
    exact k a _ S2
/-- a line of a part -/
def spTakeP (K : PySem.W.Frag) (CR : Addr) : Sp := fun vs H Q _ => ∃ (B : Hp) (p dx a b : Addr) (acc : List V) (z : Str) (i j : Int), vs = [.ref p, .ref b] ∧ Ok ⟨B, H, [a]⟩ B [(a, .lst acc)] H ∧ H p = some (.ins CR dx [("rows", .ref a)]) ∧ SqL K H b ((["part", z, numS i, numS j] : List Str).map V.str) ∧
  isNameM z = true ∧ (0 ≤ i ∧ i < 100) ∧ (0 ≤ j ∧ j < 100) ∧ acc.length ≤ 3500 ∧ ∀ c n s H', Ok ⟨B, H, [a]⟩ B [(c, .lst [.str z, .ref n, .ref s, .int i, .int j]), (s, .lst []), (n, .lst []), (a, .lst (acc ++ [.ref c]))] H' → Q (.bl true) H'
theorem ok_take_part {f CR : Addr} {fd : FuncData} (F : Fun K "does_take" "Reader.does_take" s_Reader_does_take f fd) (G_is_name : FnG P w K mg base 1 "is_name" ["word"] spIsName) (G_number_in : FnG P w K mg base 1 "number_in" ["word"] spNumberIn) (clR : Cls K CR) (nRows : NoAttr K CR "rows")
    (n_len : mg "len" = none) (c_PART : GlS mg "PART" "part") (c_NEED : GlS mg "NEED" "need") (c_STEP : GlS mg "STEP" "step") : FnOk P w K mg base CX0 2 f fd ["self", "words"] (spTakeP K CR) := by
  refine F.ok sc_Reader_does_take (fun vs H Q E h => ?_) (fun cdv A outer s H vs Q E hr h => ?_)
  · obtain ⟨B, p, dx, a, b, acc, z, i, j, rfl, _⟩ := h
    rfl
  · obtain ⟨B, p, dx, a, b, acc, z, i, j, rfl, S, hp, hb, hz, hi, hj, hacc, k⟩ := h
    refine with_al (P := P) (w := w) (K := K) hr (fun al => ?_)
    refine ⟨_, (pss_cons (ps_asg (pv 1) (pg_star (n := 2) (i := 1) K (pgs_cons (pg_name (i := 2) sc_Reader_does_take.nd rfl (by first | exact Or.inl rfl | exact Or.inr rfl)) (pgs_star (pg_name (i := 3) sc_Reader_does_take.nd rfl (by first | exact Or.inl rfl | exact Or.inr rfl)) pgs_nil)) (by decide))) (pss_cons (ps_if (PW.pt (pw_and (pt_cmpR (opU al) (pv 2) (pe_gs c_PART rfl) (nomark _)) (pw_and1 (pt_cmpR (opU al) (pe_callB (callU al) (by rfl) n_len b_len (pa_cons (pv 3) pa_nil)) pe_int (nomark _))))) (pss_cons (ps_par (i := 4) (j := 5) al.calm sc_Reader_does_take.nd rfl rfl (by decide) rfl rfl (pa_cons (pe_fn G_number_in (hr.mono (by first | decide | omega)) rfl (pa_cons (pe_ix (ixU al) (pv 3) pe_int (fun _ _ => rfl)) pa_nil)) (pa_cons (pe_fn G_number_in (hr.mono (by first | decide | omega)) rfl (pa_cons (pe_ix (ixU al) (pv 3) pe_int (fun _ _ => rfl)) pa_nil)) pa_nil)) (by rfl)) (pss_cons (ps_if (PW.pt (pw_or (pt_not (pt_val (pe_fn G_is_name (hr.mono (by first | decide | omega)) rfl (pa_cons (pe_ix (ixU al) (pv 3) pe_int (fun _ _ => rfl)) pa_nil)))) (pw_or (pt_cmpR (opU al) (pv 4) pe_int (nomark _)) (pw_or1 (pt_cmpR (opU al) (pv 5) pe_int (nomark _)))))) (pss_one (ps_ret pe_bl)) pss_nil) (pss_cons (ps_expr (pe_bmU K PySem.F.plainAttrs_list PySem.F.slot_list_append PySem.F.type_list_append (metU al) (pe_fldU K (pv 0) rfl) (pa_cons (pe_lst (pa_cons (pe_ix (ixU al) (pv 3) pe_int (fun _ _ => rfl)) (pa_cons (pe_lst pa_nil) (pa_cons (pe_lst pa_nil) (pa_cons (pv 4) (pa_cons (pv 5) pa_nil)))))) pa_nil))) (pss_one (ps_ret pe_bl))))) pss_nil) (pss_cons (ps_if (PW.pt (pw_or (pt_cmpR (opU al) (pe_fldU K (pv 0) rfl) (pe_lst pa_nil) (nomark _)) (pw_or1 (pt_cmpR (opU al) (pe_callB (callU al) (by rfl) n_len b_len (pa_cons (pv 3) pa_nil)) pe_int (nomark _))))) (pss_one (ps_ret pe_bl)) pss_nil) (pss_cons (ps_asg (pe_fn G_number_in (hr.mono (by first | decide | omega)) rfl (pa_cons (pe_ix (ixU al) (pv 3) pe_int (fun _ _ => rfl)) pa_nil)) (pg_name (i := 6) sc_Reader_does_take.nd rfl (by first | exact Or.inl rfl | exact Or.inr rfl))) (pss_cons (ps_if (PW.pt (pw_and (pt_cmpR (opU al) (pv 2) (pe_gs c_NEED rfl) (nomark _)) (pw_and (pt_val (pe_fn G_is_name (hr.mono (by first | decide | omega)) rfl (pa_cons (pe_ix (ixU al) (pv 3) pe_int (fun _ _ => rfl)) pa_nil))) (pw_and (pt_cmpR (opU al) (pv 6) pe_int (nomark _)) (pw_and1 (pt_cmpR (opU al) (pe_ix (ixU al) (pe_ix (ixU al) (pe_fldU K (pv 0) rfl) (pe_un un_neg pe_int) (fun _ _ => rfl)) pe_int (fun _ _ => rfl)) (pe_lst pa_nil) (nomark _))))))) (pss_cons (ps_expr (pe_bmU K PySem.F.plainAttrs_list PySem.F.slot_list_append PySem.F.type_list_append (metU al) (pe_ix (ixU al) (pe_ix (ixU al) (pe_fldU K (pv 0) rfl) (pe_un un_neg pe_int) (fun _ _ => rfl)) pe_int (fun _ _ => rfl)) (pa_cons (pe_tup (pa_cons (pe_ix (ixU al) (pv 3) pe_int (fun _ _ => rfl)) (pa_cons (pv 6) pa_nil))) pa_nil))) (pss_one (ps_ret pe_bl))) pss_nil) (pss_cons (ps_if (PW.pt (pw_and (pt_cmpR (opU al) (pv 2) (pe_gs c_STEP rfl) (nomark _)) (pw_and (pt_cmpR (opU al) (pe_fn G_number_in (hr.mono (by first | decide | omega)) rfl (pa_cons (pe_ix (ixU al) (pv 3) pe_int (fun _ _ => rfl)) pa_nil)) pe_int (nomark _)) (pw_and1 (pt_cmpR (opU al) (pv 6) pe_int (nomark _)))))) (pss_cons (ps_expr (pe_bmU K PySem.F.plainAttrs_list PySem.F.slot_list_append PySem.F.type_list_append (metU al) (pe_ix (ixU al) (pe_ix (ixU al) (pe_fldU K (pv 0) rfl) (pe_un un_neg pe_int) (fun _ _ => rfl)) pe_int (fun _ _ => rfl)) (pa_cons (pe_tup (pa_cons (pe_fn G_number_in (hr.mono (by first | decide | omega)) rfl (pa_cons (pe_ix (ixU al) (pv 3) pe_int (fun _ _ => rfl)) pa_nil)) (pa_cons (pv 6) pa_nil))) pa_nil))) (pss_one (ps_ret pe_bl))) pss_nil) (pss_one (ps_ret pe_bl)))))))), ?_⟩
    repeat tb_start
    refine r_gstar S hb (by show 2 ≤ 5; decide) (by show 4 ≤ 16384; decide) fun q H1 S1 => ?_
    replace S1 : Ok ⟨B, H, [a]⟩ B [(q, .lst [.str z, .str (numS i), .str (numS j)]), (a, .lst acc)] H1 := S1
    show gCons _ _ [.str "part", .ref q] _ _ _
    repeat tb_start
    refine ifdT rfl ?_
    repeat tb_start
    refine ⟨i, rfl, hi.1, hi.2, ?_⟩
    repeat tb_start
    refine ⟨j, rfl, hj.1, hj.2, ?_⟩
    repeat tb_start
    refine ⟨B, z, rfl, S1.ex, Nat.le_trans (name_len hz) (by decide), fun B2 H2 T2 => ?_⟩
    have S2 : Ok ⟨B, H, [a]⟩ B2 [(q, .lst [.str z, .str (numS i), .str (numS j)]), (a, .lst acc)] H2 := S1.callP T2
    rw [hz]
    have hpa : p ∉ [a] := fun hm => by
      rw [List.mem_singleton] at hm
      rw [hm, (S.own _ (.head _)).1] at hp
      cases hp
    have hp2 : H2 p = some (.ins CR dx [("rows", .ref a)]) := S2.keep p _ hp hpa
    repeat tb_start
    refine new_lst S2 (by decide) fun n H3 S3 => ?_
    repeat tb_start
    refine new_lst S3 (by decide) fun s' H4 S4 => ?_
    repeat tb_start
    refine new_lst S4 (by show 5 ≤ sizeLine; decide) fun c H5 S5 => ?_
    repeat tb_start
    refine v_appendN 4 S5 rfl (by rw [sizeLine_eq]; omega) fun H6 S6 => ?_
    repeat tb_start
    replace S6 : Ok ⟨B, H, [a]⟩ B2 ([(c, HO.lst [.str z, .ref n, .ref s', .int i, .int j]), (s', HO.lst []), (n, HO.lst []), (q, HO.lst [.str z, .str (numS i), .str (numS j)]), (a, HO.lst (acc ++ [V.ref c]))]) H6 := S6
    have S7 : Ok ⟨B, H, [a]⟩ B2 [(q, .lst [.str z, .str (numS i), .str (numS j)]), (c, .lst [.str z, .ref n, .ref s', .int i, .int j]), (s', .lst []), (n, .lst []), (a, .lst (acc ++ [.ref c]))] H6 := S6.perm (((List.perm_append_comm (l₁ := [(c, HO.lst [.str z, .ref n, .ref s', .int i, .int j]), (s', HO.lst []), (n, HO.lst [])]) (l₂ := [(q, HO.lst [.str z, .str (numS i), .str (numS j)])])).append_right [(a, HO.lst (acc ++ [V.ref c]))]))
    exact k c n s' _ (Ok.rebase (Ex.refl B) S7.drop)
end
end LW

namespace LW
open PySem PySem.Spec PyProof.Rows L2 WK PM
abbrev rdL (CR p dx a c n s : Addr) (acc : List V) (nm : Str) (lot lead : Int) (xs ys : List V) : Led :=
  [(n, .lst xs), (s, .lst ys), (c, .lst [.str nm, .ref n, .ref s, .int lot, .int lead]), (a, .lst (acc ++ [.ref c])), (p, .ins CR dx [("rows", .ref a)])]
/-- a line of a need -/
def spTakeN (K : PySem.W.Frag) (CR : Addr) : Sp := fun vs H Q _ => ∃ (B : Hp) (p dx a c n s b : Addr) (acc xs : List V) (nm z : Str) (lot lead i : Int), vs = [.ref p, .ref b] ∧ Ok ⟨B, H, [n, s, c, a, p]⟩ B (rdL CR p dx a c n s acc nm lot lead xs []) H ∧ SqL K H b ((["need", z, numS i] : List Str).map V.str) ∧
  isNameM z = true ∧ (0 ≤ i ∧ i < 100) ∧ xs.length ≤ 3500 ∧ ∀ t B' H', Ex B B' → Dp K B' t (encNeed (z, i)) → Ok ⟨B, H, [n, s, c, a, p]⟩ B' (rdL CR p dx a c n s acc nm lot lead (xs ++ [t]) []) H' → Q (.bl true) H'
/-- a line of a step -/
def spTakeS (K : PySem.W.Frag) (CR : Addr) : Sp := fun vs H Q _ => ∃ (B : Hp) (p dx a c n s b : Addr) (acc xs ys : List V) (nm : Str) (lot lead i j : Int), vs = [.ref p, .ref b] ∧ Ok ⟨B, H, [n, s, c, a, p]⟩ B (rdL CR p dx a c n s acc nm lot lead xs ys) H ∧ SqL K H b ((["step", numS i, numS j] : List Str).map V.str) ∧
  (0 ≤ i ∧ i < 100) ∧ (0 ≤ j ∧ j < 100) ∧ ys.length ≤ 3500 ∧ ∀ t B' H', Ex B B' → Dp K B' t (encStep (i, j)) → Ok ⟨B, H, [n, s, c, a, p]⟩ B' (rdL CR p dx a c n s acc nm lot lead xs (ys ++ [t])) H' → Q (.bl true) H'
section
variable {P : Program} {w : World} {K : PySem.W.Frag} {mg : Str → Option Value} {base : Heap}
theorem ok_take_need {f CR : Addr} {fd : FuncData} (F : Fun K "does_take" "Reader.does_take" s_Reader_does_take f fd) (G_is_name : FnG P w K mg base 1 "is_name" ["word"] spIsName) (G_number_in : FnG P w K mg base 1 "number_in" ["word"] spNumberIn) (clR : Cls K CR) (nRows : NoAttr K CR "rows")
    (n_len : mg "len" = none) (c_PART : GlS mg "PART" "part") (c_NEED : GlS mg "NEED" "need") (c_STEP : GlS mg "STEP" "step") : FnOk P w K mg base CX0 2 f fd ["self", "words"] (spTakeN K CR) := by
  refine F.ok sc_Reader_does_take (fun vs H Q E h => ?_) (fun cdv A outer s H vs Q E hr h => ?_)
  · obtain ⟨B, p, dx, a, c, n, s, b, acc, xs, nm, z, lot, lead, i, rfl, _⟩ := h
    rfl
  · obtain ⟨B, p, dx, a, c, n, s', b, acc, xs, nm, z, lot, lead, i, rfl, S, hb, hz, hi, hx, k⟩ := h
    refine with_al (P := P) (w := w) (K := K) hr (fun al => ?_)
    refine ⟨_, (pss_cons (ps_asg (pv 1) (pg_star (n := 2) (i := 1) K (pgs_cons (pg_name (i := 2) sc_Reader_does_take.nd rfl (by first | exact Or.inl rfl | exact Or.inr rfl)) (pgs_star (pg_name (i := 3) sc_Reader_does_take.nd rfl (by first | exact Or.inl rfl | exact Or.inr rfl)) pgs_nil)) (by decide))) (pss_cons (ps_if (PW.pt (pw_and (pt_cmpR (opU al) (pv 2) (pe_gs c_PART rfl) (nomark _)) (pw_and1 (pt_cmpR (opU al) (pe_callB (callU al) (by rfl) n_len b_len (pa_cons (pv 3) pa_nil)) pe_int (nomark _))))) (pss_cons (ps_par (i := 4) (j := 5) al.calm sc_Reader_does_take.nd rfl rfl (by decide) rfl rfl (pa_cons (pe_fn G_number_in (hr.mono (by first | decide | omega)) rfl (pa_cons (pe_ix (ixU al) (pv 3) pe_int (fun _ _ => rfl)) pa_nil)) (pa_cons (pe_fn G_number_in (hr.mono (by first | decide | omega)) rfl (pa_cons (pe_ix (ixU al) (pv 3) pe_int (fun _ _ => rfl)) pa_nil)) pa_nil)) (by rfl)) (pss_cons (ps_if (PW.pt (pw_or (pt_not (pt_val (pe_fn G_is_name (hr.mono (by first | decide | omega)) rfl (pa_cons (pe_ix (ixU al) (pv 3) pe_int (fun _ _ => rfl)) pa_nil)))) (pw_or (pt_cmpR (opU al) (pv 4) pe_int (nomark _)) (pw_or1 (pt_cmpR (opU al) (pv 5) pe_int (nomark _)))))) (pss_one (ps_ret pe_bl)) pss_nil) (pss_cons (ps_expr (pe_bmU K PySem.F.plainAttrs_list PySem.F.slot_list_append PySem.F.type_list_append (metU al) (pe_fldU K (pv 0) rfl) (pa_cons (pe_lst (pa_cons (pe_ix (ixU al) (pv 3) pe_int (fun _ _ => rfl)) (pa_cons (pe_lst pa_nil) (pa_cons (pe_lst pa_nil) (pa_cons (pv 4) (pa_cons (pv 5) pa_nil)))))) pa_nil))) (pss_one (ps_ret pe_bl))))) pss_nil) (pss_cons (ps_if (PW.pt (pw_or (pt_cmpR (opU al) (pe_fldU K (pv 0) rfl) (pe_lst pa_nil) (nomark _)) (pw_or1 (pt_cmpR (opU al) (pe_callB (callU al) (by rfl) n_len b_len (pa_cons (pv 3) pa_nil)) pe_int (nomark _))))) (pss_one (ps_ret pe_bl)) pss_nil) (pss_cons (ps_asg (pe_fn G_number_in (hr.mono (by first | decide | omega)) rfl (pa_cons (pe_ix (ixU al) (pv 3) pe_int (fun _ _ => rfl)) pa_nil)) (pg_name (i := 6) sc_Reader_does_take.nd rfl (by first | exact Or.inl rfl | exact Or.inr rfl))) (pss_cons (ps_if (PW.pt (pw_and (pt_cmpR (opU al) (pv 2) (pe_gs c_NEED rfl) (nomark _)) (pw_and (pt_val (pe_fn G_is_name (hr.mono (by first | decide | omega)) rfl (pa_cons (pe_ix (ixU al) (pv 3) pe_int (fun _ _ => rfl)) pa_nil))) (pw_and (pt_cmpR (opU al) (pv 6) pe_int (nomark _)) (pw_and1 (pt_cmpR (opU al) (pe_ix (ixU al) (pe_ix (ixU al) (pe_fldU K (pv 0) rfl) (pe_un un_neg pe_int) (fun _ _ => rfl)) pe_int (fun _ _ => rfl)) (pe_lst pa_nil) (nomark _))))))) (pss_cons (ps_expr (pe_bmU K PySem.F.plainAttrs_list PySem.F.slot_list_append PySem.F.type_list_append (metU al) (pe_ix (ixU al) (pe_ix (ixU al) (pe_fldU K (pv 0) rfl) (pe_un un_neg pe_int) (fun _ _ => rfl)) pe_int (fun _ _ => rfl)) (pa_cons (pe_tup (pa_cons (pe_ix (ixU al) (pv 3) pe_int (fun _ _ => rfl)) (pa_cons (pv 6) pa_nil))) pa_nil))) (pss_one (ps_ret pe_bl))) pss_nil) (pss_cons (ps_if (PW.pt (pw_and (pt_cmpR (opU al) (pv 2) (pe_gs c_STEP rfl) (nomark _)) (pw_and (pt_cmpR (opU al) (pe_fn G_number_in (hr.mono (by first | decide | omega)) rfl (pa_cons (pe_ix (ixU al) (pv 3) pe_int (fun _ _ => rfl)) pa_nil)) pe_int (nomark _)) (pw_and1 (pt_cmpR (opU al) (pv 6) pe_int (nomark _)))))) (pss_cons (ps_expr (pe_bmU K PySem.F.plainAttrs_list PySem.F.slot_list_append PySem.F.type_list_append (metU al) (pe_ix (ixU al) (pe_ix (ixU al) (pe_fldU K (pv 0) rfl) (pe_un un_neg pe_int) (fun _ _ => rfl)) pe_int (fun _ _ => rfl)) (pa_cons (pe_tup (pa_cons (pe_fn G_number_in (hr.mono (by first | decide | omega)) rfl (pa_cons (pe_ix (ixU al) (pv 3) pe_int (fun _ _ => rfl)) pa_nil)) (pa_cons (pv 6) pa_nil))) pa_nil))) (pss_one (ps_ret pe_bl))) pss_nil) (pss_one (ps_ret pe_bl)))))))), ?_⟩
    repeat tb_start
    refine r_gstar S hb (by show 2 ≤ 4; decide) (by show 3 ≤ 16384; decide) fun q H1 S1 => ?_
    replace S1 : Ok ⟨B, H, [n, s', c, a, p]⟩ B ((q, .lst [.str z, .str (numS i)]) :: rdL CR p dx a c n s' acc nm lot lead xs []) H1 := S1
    show gCons _ _ [.str "need", .ref q] _ _ _
    repeat tb_start
    refine ifdF (by decide) ?_
    repeat tb_start
    refine new_lst S1 (by decide) fun q2 H2 S2 => ?_
    repeat tb_start
    refine v_eqLen (S2.sqMem (.tail _ (.tail _ (.tail _ (.tail _ (.tail _ (.head _))))))) (S2.sqMem (.head _)) (.inl (by simp)) ?_
    have S3 := S2.drop
    clear S2 S1
    repeat tb_start
    refine ⟨i, rfl, hi.1, hi.2, ?_⟩
    repeat tb_start
    refine ifdT rfl ?_
    repeat tb_start
    refine ⟨B, z, rfl, S3.ex, Nat.le_trans (name_len hz) (by decide), fun B4 H4 T4 => ?_⟩
    have S4 := S3.callP T4
    have e4 := T4.ex0
    rw [hz]
    clear S3 T4
    repeat tb_start
    refine v_ixL (S4.sqMem (.tail _ (.tail _ (.tail _ (.tail _ (.head _)))))) (atI_last _ _) ?_
    repeat tb_start
    refine new_lst S4 (by decide) fun q2 H2 S2 => ?_
    repeat tb_start
    refine v_eqLen (S2.sqMem (.tail _ (.tail _ (.tail _ (.head _))))) (S2.sqMem (.head _)) (.inr ⟨rfl, rfl⟩) ?_
    have S5 := S2.drop
    clear S2 S4
    repeat tb_start
    refine v_ixL (S5.sqMem (.tail _ (.tail _ (.tail _ (.tail _ (.head _)))))) (atI_last _ _) ?_
    repeat tb_start
    refine new_tupD (K := K) S5 (.cons (.str z) (.cons (.int i) .nil)) (by simp) fun t B6 H6 e6 S6 ht => ?_
    repeat tb_start
    refine v_appendN 1 S6 rfl (by rw [sizeLine_eq]; omega) fun H7 S7 => ?_
    repeat tb_start
    exact k _ _ _ (by nest_room) ht ((show Ok _ B6 ((q, .lst [.str z, .str (numS i)]) :: rdL CR p dx a c n s' acc nm lot lead (xs ++ [.ref t]) []) H7 from S7).drop)
theorem ok_take_step {f CR : Addr} {fd : FuncData} (F : Fun K "does_take" "Reader.does_take" s_Reader_does_take f fd) (G_is_name : FnG P w K mg base 1 "is_name" ["word"] spIsName) (G_number_in : FnG P w K mg base 1 "number_in" ["word"] spNumberIn) (clR : Cls K CR) (nRows : NoAttr K CR "rows")
    (n_len : mg "len" = none) (c_PART : GlS mg "PART" "part") (c_NEED : GlS mg "NEED" "need") (c_STEP : GlS mg "STEP" "step") : FnOk P w K mg base CX0 2 f fd ["self", "words"] (spTakeS K CR) := by
  refine F.ok sc_Reader_does_take (fun vs H Q E h => ?_) (fun cdv A outer s H vs Q E hr h => ?_)
  · obtain ⟨B, p, dx, a, c, n, s, b, acc, xs, ys, nm, lot, lead, i, j, rfl, _⟩ := h
    rfl
  · obtain ⟨B, p, dx, a, c, n, s', b, acc, xs, ys, nm, lot, lead, i, j, rfl, S, hb, hi, hj, hx, k⟩ := h
    refine with_al (P := P) (w := w) (K := K) hr (fun al => ?_)
    refine ⟨_, (pss_cons (ps_asg (pv 1) (pg_star (n := 2) (i := 1) K (pgs_cons (pg_name (i := 2) sc_Reader_does_take.nd rfl (by first | exact Or.inl rfl | exact Or.inr rfl)) (pgs_star (pg_name (i := 3) sc_Reader_does_take.nd rfl (by first | exact Or.inl rfl | exact Or.inr rfl)) pgs_nil)) (by decide))) (pss_cons (ps_if (PW.pt (pw_and (pt_cmpR (opU al) (pv 2) (pe_gs c_PART rfl) (nomark _)) (pw_and1 (pt_cmpR (opU al) (pe_callB (callU al) (by rfl) n_len b_len (pa_cons (pv 3) pa_nil)) pe_int (nomark _))))) (pss_cons (ps_par (i := 4) (j := 5) al.calm sc_Reader_does_take.nd rfl rfl (by decide) rfl rfl (pa_cons (pe_fn G_number_in (hr.mono (by first | decide | omega)) rfl (pa_cons (pe_ix (ixU al) (pv 3) pe_int (fun _ _ => rfl)) pa_nil)) (pa_cons (pe_fn G_number_in (hr.mono (by first | decide | omega)) rfl (pa_cons (pe_ix (ixU al) (pv 3) pe_int (fun _ _ => rfl)) pa_nil)) pa_nil)) (by rfl)) (pss_cons (ps_if (PW.pt (pw_or (pt_not (pt_val (pe_fn G_is_name (hr.mono (by first | decide | omega)) rfl (pa_cons (pe_ix (ixU al) (pv 3) pe_int (fun _ _ => rfl)) pa_nil)))) (pw_or (pt_cmpR (opU al) (pv 4) pe_int (nomark _)) (pw_or1 (pt_cmpR (opU al) (pv 5) pe_int (nomark _)))))) (pss_one (ps_ret pe_bl)) pss_nil) (pss_cons (ps_expr (pe_bmU K PySem.F.plainAttrs_list PySem.F.slot_list_append PySem.F.type_list_append (metU al) (pe_fldU K (pv 0) rfl) (pa_cons (pe_lst (pa_cons (pe_ix (ixU al) (pv 3) pe_int (fun _ _ => rfl)) (pa_cons (pe_lst pa_nil) (pa_cons (pe_lst pa_nil) (pa_cons (pv 4) (pa_cons (pv 5) pa_nil)))))) pa_nil))) (pss_one (ps_ret pe_bl))))) pss_nil) (pss_cons (ps_if (PW.pt (pw_or (pt_cmpR (opU al) (pe_fldU K (pv 0) rfl) (pe_lst pa_nil) (nomark _)) (pw_or1 (pt_cmpR (opU al) (pe_callB (callU al) (by rfl) n_len b_len (pa_cons (pv 3) pa_nil)) pe_int (nomark _))))) (pss_one (ps_ret pe_bl)) pss_nil) (pss_cons (ps_asg (pe_fn G_number_in (hr.mono (by first | decide | omega)) rfl (pa_cons (pe_ix (ixU al) (pv 3) pe_int (fun _ _ => rfl)) pa_nil)) (pg_name (i := 6) sc_Reader_does_take.nd rfl (by first | exact Or.inl rfl | exact Or.inr rfl))) (pss_cons (ps_if (PW.pt (pw_and (pt_cmpR (opU al) (pv 2) (pe_gs c_NEED rfl) (nomark _)) (pw_and (pt_val (pe_fn G_is_name (hr.mono (by first | decide | omega)) rfl (pa_cons (pe_ix (ixU al) (pv 3) pe_int (fun _ _ => rfl)) pa_nil))) (pw_and (pt_cmpR (opU al) (pv 6) pe_int (nomark _)) (pw_and1 (pt_cmpR (opU al) (pe_ix (ixU al) (pe_ix (ixU al) (pe_fldU K (pv 0) rfl) (pe_un un_neg pe_int) (fun _ _ => rfl)) pe_int (fun _ _ => rfl)) (pe_lst pa_nil) (nomark _))))))) (pss_cons (ps_expr (pe_bmU K PySem.F.plainAttrs_list PySem.F.slot_list_append PySem.F.type_list_append (metU al) (pe_ix (ixU al) (pe_ix (ixU al) (pe_fldU K (pv 0) rfl) (pe_un un_neg pe_int) (fun _ _ => rfl)) pe_int (fun _ _ => rfl)) (pa_cons (pe_tup (pa_cons (pe_ix (ixU al) (pv 3) pe_int (fun _ _ => rfl)) (pa_cons (pv 6) pa_nil))) pa_nil))) (pss_one (ps_ret pe_bl))) pss_nil) (pss_cons (ps_if (PW.pt (pw_and (pt_cmpR (opU al) (pv 2) (pe_gs c_STEP rfl) (nomark _)) (pw_and (pt_cmpR (opU al) (pe_fn G_number_in (hr.mono (by first | decide | omega)) rfl (pa_cons (pe_ix (ixU al) (pv 3) pe_int (fun _ _ => rfl)) pa_nil)) pe_int (nomark _)) (pw_and1 (pt_cmpR (opU al) (pv 6) pe_int (nomark _)))))) (pss_cons (ps_expr (pe_bmU K PySem.F.plainAttrs_list PySem.F.slot_list_append PySem.F.type_list_append (metU al) (pe_ix (ixU al) (pe_ix (ixU al) (pe_fldU K (pv 0) rfl) (pe_un un_neg pe_int) (fun _ _ => rfl)) pe_int (fun _ _ => rfl)) (pa_cons (pe_tup (pa_cons (pe_fn G_number_in (hr.mono (by first | decide | omega)) rfl (pa_cons (pe_ix (ixU al) (pv 3) pe_int (fun _ _ => rfl)) pa_nil)) (pa_cons (pv 6) pa_nil))) pa_nil))) (pss_one (ps_ret pe_bl))) pss_nil) (pss_one (ps_ret pe_bl)))))))), ?_⟩
    repeat tb_start
    refine r_gstar S hb (by show 2 ≤ 4; decide) (by show 3 ≤ 16384; decide) fun q H1 S1 => ?_
    replace S1 : Ok ⟨B, H, [n, s', c, a, p]⟩ B ((q, .lst [.str (numS i), .str (numS j)]) :: rdL CR p dx a c n s' acc nm lot lead xs ys) H1 := S1
    show gCons _ _ [.str "step", .ref q] _ _ _
    repeat tb_start
    refine ifdF (by decide) ?_
    repeat tb_start
    refine new_lst S1 (by decide) fun q2 H2 S2 => ?_
    repeat tb_start
    refine v_eqLen (S2.sqMem (.tail _ (.tail _ (.tail _ (.tail _ (.tail _ (.head _))))))) (S2.sqMem (.head _)) (.inl (by simp)) ?_
    have S3 := S2.drop
    clear S2 S1
    repeat tb_start
    refine ⟨j, rfl, hj.1, hj.2, ?_⟩
    repeat tb_start
    refine ifdF (by decide) ?_
    repeat tb_start
    refine ifdT rfl ?_
    repeat tb_start
    refine ⟨i, rfl, hi.1, hi.2, ?_⟩
    repeat tb_start
    refine v_ixL (S3.sqMem (.tail _ (.tail _ (.tail _ (.tail _ (.head _)))))) (atI_last _ _) ?_
    repeat tb_start
    refine ⟨i, rfl, hi.1, hi.2, ?_⟩
    repeat tb_start
    refine new_tupD (K := K) S3 (.cons (.int i) (.cons (.int j) .nil)) (by simp) fun t B6 H6 e6 S6 ht => ?_
    repeat tb_start
    refine v_appendN 2 S6 rfl (by rw [sizeLine_eq]; omega) fun H7 S7 => ?_
    repeat tb_start
    exact k _ _ _ (by nest_room) ht ((show Ok _ B6 ((q, .lst [.str (numS i), .str (numS j)]) :: rdL CR p dx a c n s' acc nm lot lead xs (ys ++ [.ref t])) H7 from S7).drop)
end
end LW

namespace LW
open PySem PySem.Spec PyProof.Rows L2 WK PM
/-! refusals (as in KXq) -/
structure Exs where
  part : Addr
  count : Addr
  lacks : Addr
  piece : Addr
  lot : Addr
  parts : Addr
  text : Addr
  kin : Addr
/-- a refusal -/
inductive Rf where
  | part (z : Str)
  | count
  | lacks (z : Str)
  | piece (z : Str)
  | lot
  | parts (i : Int)
  | text (i : Int)
/-- how a refusal lies in what stays -/
def Rz (X : Exs) (B : Hp) : Rf → Value → Option Addr → Prop
  | .part z, c, d => c = .ref X.part ∧ ∃ a, d = some a ∧ B a = some (.xd [("name", .str z)])
  | .count, c, d => c = .ref X.count ∧ d = none
  | .lacks z, c, d => c = .ref X.lacks ∧ ∃ a, d = some a ∧ B a = some (.xd [("name", .str z)])
  | .piece z, c, d => c = .ref X.piece ∧ ∃ a, d = some a ∧ B a = some (.xd [("state", .str z)])
  | .lot, c, d => c = .ref X.lot ∧ d = none
  | .parts i, c, d => c = .ref X.parts ∧ ∃ a, d = some a ∧ B a = some (.xd [("at", .int i)])
  | .text i, c, d => c = .ref X.text ∧ ∃ a, d = some a ∧ B a = some (.xd [("row", .int i)])
/-- refused, nothing of ours touched -/
def RefN (X : Exs) (B H : Hp) (r : Rf) (E : XK) : Prop := ∀ c d B' H', Ex B B' → Ok ⟨B, H, []⟩ B' [] H' → Rz X B' r c d → E c d H'
end LW

namespace LW
open PySem PySem.Spec PyProof.Rows L2 WK PM
abbrev s__law_kind : Stmt := topS 38
theorem sc__law_kind : FnScope ["_law_call", "e", "_law_kinds"] ["_law_call"] (defScope s__law_kind) := ⟨rfl, rfl, rfl, by decide +kernel, rfl, by decide +kernel, by decide +kernel⟩
/-- what is told of a refusal -/
def rfV : Rf → List V
  | .part z => [.str "part", .str z]
  | .count => [.str "count", .int 0]
  | .lacks z => [.str "lacks", .str z]
  | .piece z => [.str "piece", .str z]
  | .lot => [.str "lot", .int 0]
  | .parts i => [.str "parts", .int i]
  | .text i => [.str "text", .int i]
def Exs.at (X : Exs) : Nat → Addr
  | 0 => X.parts
  | 1 => X.part
  | 2 => X.count
  | 3 => X.lacks
  | 4 => X.piece
  | 5 => X.lot
  | _ => X.text
/-- what the written part tells of a class of refusals, the i-th that is asked for -/
structure KndD (K : PySem.W.Frag) (X : Exs) (i : Nat) : Prop where
  ec : ExcC K (X.at i)
  ex : PySem.W.exmOne K (.ref (X.at i)) (.ref X.kin) = some true
  i0 : PySem.W.kitOne K (.ref (X.at i)) (.ref X.parts) = some (decide (i = 0))
  i1 : PySem.W.kitOne K (.ref (X.at i)) (.ref X.part) = some (decide (i = 1))
  i2 : PySem.W.kitOne K (.ref (X.at i)) (.ref X.count) = some (decide (i = 2))
  i3 : PySem.W.kitOne K (.ref (X.at i)) (.ref X.lacks) = some (decide (i = 3))
  i4 : PySem.W.kitOne K (.ref (X.at i)) (.ref X.piece) = some (decide (i = 4))
  i5 : PySem.W.kitOne K (.ref (X.at i)) (.ref X.lot) = some (decide (i = 5))
  i6 : PySem.W.kitOne K (.ref (X.at i)) (.ref X.text) = some (decide (i = 6))
  ve : PySem.W.kitOne K (.ref (X.at i)) (.type "ValueError") = some true
structure KndF (K : PySem.W.Frag) (X : Exs) (i : Nat) (f : Str) : Prop where
  d : KndD K X i
  x : XfC K (X.at i)
  n : PySem.W.findIn K (.ref (X.at i)) f = some none
def KndR (K : PySem.W.Frag) (X : Exs) : Rf → Prop
  | .part _ => KndF K X 1 "name"
  | .count => KndD K X 2
  | .lacks _ => KndF K X 3 "name"
  | .piece _ => KndF K X 4 "state"
  | .lot => KndD K X 5
  | .parts _ => KndF K X 0 "at"
  | .text _ => KndF K X 6 "row"
theorem if_c0 {c : Bool} {A B : Prop} (h : c = false) (k : B) : if c = true then A else B := by
  subst h
  exact k
def rfIx : Rf → Nat
  | .part _ => 1
  | .count => 2
  | .lacks _ => 3
  | .piece _ => 4
  | .lot => 5
  | .parts _ => 0
  | .text _ => 6
/-- what comes of _law_kind(a): a's reading -/
def TTkind (K : PySem.W.Frag) (X : Exs) : (XK → Hp → VK → Prop) → Hp → VK → Prop := fun tl H Q =>
  tl (fun cls d H' => ∃ r, KndR K X r ∧ Rz X H' r cls d ∧ ∀ t H'', Ex H' H'' → H' t = none → H'' t = some (.tup (rfV r)) → Q (.ref t) H'') H
    (fun _ H' => ([V.str "", V.int 0] : List V).length ≤ sizeLine ∧ ∀ t, H' t = none → Q (.ref t) (upd H' t (.tup [.str "", .int 0])))
/-- isinstance of the caught one, whatever its class -/
def rIsA (K : PySem.W.Frag) (a : Addr) (cls : Value) (d : Option Addr) : List V → Hp → VK → Prop := fun xs H Q => ∃ D, cls = .ref D ∧ ExcC K D ∧ rIsD K D a d xs H Q
theorem call_isA {X : Cx} {a : Addr} {cls : Value} {d : Option Addr} {oe : Obj} {pn : List (Addr × Obj)} (hz : Zc cls d oe) (hf : ∃ vs, oe.data = .fields vs) : CallR (X.suite a ((a, oe) :: pn)) (.builtin "isinstance") (rIsA X.K a cls d) := by
  intro pins s σ H xs us Q I r hw
  obtain ⟨D, rfl, C, hw⟩ := hw
  exact call_isD C hz hf pins s σ H xs us Q I r hw
/-- its field, whatever its class -/
def tXfA (K : PySem.W.Frag) (a : Addr) (cls : Value) (d : Option Addr) (f : Str) (te : TE) : TE := fun σ H Q => ∃ C, XfC K C ∧ PySem.W.findIn K (.ref C) f = some none ∧ tXf a cls d C f te σ H Q
theorem pe_xfA {X : Cx} {a : Addr} {oe : Obj} {cls : Value} {d : Option Addr} {pn : List (Addr × Obj)} {e : Expr} {te : TE} {pos : Pos} {n : Str} (hz : Zc cls d oe) (hf : ∃ vs, oe.data = .fields vs) (he : PE (X.suite a ((a, oe) :: pn)) e te) (hb : attributeBase e n X.env (eval e X.env) = eval e X.env := by rfl) :
    PE (X.suite a ((a, oe) :: pn)) (.Attribute e n pos) (tXfA X.K a cls d n te) :=
  ⟨fun pins s σ H Q I hw => let ⟨_, T, hno, h⟩ := hw; (pe_xf T hno hz hf he hb).run pins s σ H Q I h⟩
theorem isA_go {K : PySem.W.Frag} {X : Exs} {i : Nat} {a C : Addr} {d : Option Addr} {b : Bool} {H : Hp} {Q : VK} (k : KndD K X i) (h : PySem.W.kitOne K (.ref (X.at i)) (.ref C) = some b) (hd : XdAt H d) (q : Q (.bl b) H) : rIsA K a (.ref (X.at i)) d [.ref a, .ref C] H Q :=
  ⟨_, rfl, k.ec, .ref C, .ref C, b, rfl, fun _ e => e, h, hd, q⟩
theorem isA_ve {K : PySem.W.Frag} {X : Exs} {i : Nat} {a : Addr} {d : Option Addr} {H : Hp} {Q : VK} (k : KndD K X i) (hd : XdAt H d) (q : Q (.bl true) H) : rIsA K a (.ref (X.at i)) d [.ref a, .ty "ValueError"] H Q :=
  ⟨_, rfl, k.ec, .ty "ValueError", .type "ValueError", true, rfl, fun _ e => e, k.ve, hd, q⟩
section
variable {X : Cx} {Z : Exs}
theorem kind_gives {g : Addr} {cdg : Value} {q : Str} (n_isinstance : X.mg "isinstance" = none) (n_ValueError : X.mg "ValueError" = none) (hm : X.mg "KinError" = some (.ref Z.kin))
    (c_BadParts : GlV X.mg "BadParts" (.ref Z.parts)) (c_BadPart : GlV X.mg "BadPart" (.ref Z.part)) (c_BadCount : GlV X.mg "BadCount" (.ref Z.count)) (c_Lacks : GlV X.mg "Lacks" (.ref Z.lacks)) (c_BadPiece : GlV X.mg "BadPiece" (.ref Z.piece)) (c_BadLot : GlV X.mg "BadLot" (.ref Z.lot)) (c_BadText : GlV X.mg "BadText" (.ref Z.text)) (hu : X.A.units + 70 < cLine) :
    LamX.GivesTo X ["_law_call", "e", "_law_kinds"] "_law_kind" (defScope s__law_kind) g cdg (defBody s__law_kind) "_law_call" q (TTkind X.K Z) := by
  intro f c' s H Q tl act hc hw
  refine ⟨_, pss_cons (ps_try_as (X := (cxOf C8.CX0 X.prog X.w X.K X.mg X.base ["_law_call", "e", "_law_kinds"] "_law_kind" (defScope s__law_kind) g cdg X.A X.stack s H C8.E0).nox) (i := 1) (c := .ref Z.kin)
      (tb := fun W D σ H => ∃ Ech : XK, (∀ cls d σ' H', σ'.length = 3 → Ech cls d H' → W cls d σ' H') ∧ σ[0]? = some (some (.ref f)) ∧ H c' = some (LamX.CodeO c' q) ∧ tl Ech H (fun _ H' => D.nx σ H'))
      rfl rfl sc__law_kind.nd rfl rfl ⟨by rfl, by decide +kernel, .inl hm⟩ L2.takes0 (fun W pn xe tk _ => ?_) (fun a oe cls d pn hz hf => (pss_cons (ps_asg (pe_lst (pa_cons (pe_callB (call_isA hz hf) rfl n_isinstance b_isinstance (pa_cons (pv 1) (pa_cons (pe_gv c_BadParts rfl) pa_nil))) (pa_cons (pe_callB (call_isA hz hf) rfl n_isinstance b_isinstance (pa_cons (pv 1) (pa_cons (pe_gv c_BadPart rfl) pa_nil))) (pa_cons (pe_callB (call_isA hz hf) rfl n_isinstance b_isinstance (pa_cons (pv 1) (pa_cons (pe_gv c_BadCount rfl) pa_nil))) (pa_cons (pe_callB (call_isA hz hf) rfl n_isinstance b_isinstance (pa_cons (pv 1) (pa_cons (pe_gv c_Lacks rfl) pa_nil))) pa_nil))))) (pg_name (i := 2) sc__law_kind.nd rfl (by first | exact Or.inl rfl | exact Or.inr rfl))) (pss_cons (ps_expr (pe_bmU X.K PySem.F.plainAttrs_list PySem.F.slot_list_extend PySem.F.type_list_extend mt_extend (pv 2) (pa_cons (pe_lst (pa_cons (pe_callB (call_isA hz hf) rfl n_isinstance b_isinstance (pa_cons (pv 1) (pa_cons (pe_gv c_BadPiece rfl) pa_nil))) (pa_cons (pe_callB (call_isA hz hf) rfl n_isinstance b_isinstance (pa_cons (pv 1) (pa_cons (pe_gv c_BadLot rfl) pa_nil))) (pa_cons (pe_callB (call_isA hz hf) rfl n_isinstance b_isinstance (pa_cons (pv 1) (pa_cons (pe_gv c_BadText rfl) pa_nil))) pa_nil)))) pa_nil))) (pss_cons (ps_if (PW.pt (pw_or (pt_cmpR op_ne (pe_bmU X.K PySem.F.plainAttrs_list PySem.F.slot_list_count PySem.F.type_list_count (mt_countK X.K (by show X.A.units + 3 + 64 < cLine; omega)) (pv 2) (pa_cons pe_bl pa_nil)) pe_int (nomark _)) (pw_or1 (pt_not (pt_val (pe_callB (call_isA hz hf) rfl n_isinstance b_isinstance (pa_cons (pv 1) (pa_cons (pe_bt n_ValueError b_ValueError rfl) pa_nil)))))))) (pss_one (ps_ret (pe_tup (pa_cons pe_str (pa_cons pe_int pa_nil))))) pss_nil) (pss_cons (ps_if (pt_val (pe_ix (ix_listK X.K) (pv 2) pe_int (fun _ _ => rfl))) (pss_one (ps_ret (pe_tup (pa_cons pe_str (pa_cons (pe_xfA hz hf (pv 1) rfl) pa_nil))))) pss_nil) (pss_cons (ps_if (PW.pt (pw_or (pt_val (pe_ix (ix_listK X.K) (pv 2) pe_int (fun _ _ => rfl))) (pw_or1 (pt_val (pe_ix (ix_listK X.K) (pv 2) pe_int (fun _ _ => rfl)))))) (pss_one (ps_ret (pe_tup (pa_cons (pe_ifExp (pt_val (pe_ix (ix_listK X.K) (pv 2) pe_int (fun _ _ => rfl))) pe_str pe_str) (pa_cons (pe_xfA hz hf (pv 1) rfl) pa_nil))))) pss_nil) (pss_cons (ps_if (pt_val (pe_ix (ix_listK X.K) (pv 2) pe_int (fun _ _ => rfl))) (pss_one (ps_ret (pe_tup (pa_cons pe_str (pa_cons (pe_xfA hz hf (pv 1) rfl) pa_nil))))) pss_nil) (pss_one (ps_ret (pe_ifExp (pt_val (pe_ix (ix_listK X.K) (pv 2) pe_int (fun _ _ => rfl))) (pe_tup (pa_cons pe_str (pa_cons (pe_xfA hz hf (pv 1) rfl) pa_nil))) (pe_tup (pa_cons (pe_ifExp (pt_val (pe_ix (ix_listK X.K) (pv 2) pe_int (fun _ _ => rfl))) pe_str pe_str) (pa_cons pe_int pa_nil)))))))))))))) (pss_one (ps_ret (pe_tup (pa_cons pe_str (pa_cons pe_int pa_nil))))), ?_⟩
  · refine ⟨fun pins s' σ H' D I hx => ?_⟩
    obtain ⟨Ech, hW, h1, h2, h3⟩ := hx
    exact (pss_one (ps_expr (act _ pn xe Ech _ _ (takes_len tk) fun cls d σ' H' he hl => hW cls d σ' H' hl he))).run pins s' σ H' D I ⟨h1, h2, h3⟩
  · refine ⟨_, fun cls d σ' H' hl hx => ?_, rfl, hc, hw⟩
    obtain ⟨r, hk, hrz, kk⟩ := hx
    obtain ⟨v0, v1, v2, rfl⟩ : ∃ v0 v1 v2, σ' = [v0, v1, v2] := by
      match σ', hl with
      | [v0, v1, v2], _ => exact ⟨v0, v1, v2, rfl⟩
    obtain ⟨i, k, hi, rfl, hd⟩ : ∃ i, KndD X.K Z i ∧ rfIx r = i ∧ cls = .ref (Z.at i) ∧ XdAt H' d := by
      cases r with
      | part z => obtain ⟨h1, h2⟩ := hrz; obtain ⟨a, rfl, h3⟩ := h2; exact ⟨1, hk.d, rfl, h1, _, h3⟩
      | count => obtain ⟨h1, h2⟩ := hrz; subst h2; exact ⟨2, hk, rfl, h1, trivial⟩
      | lacks z => obtain ⟨h1, h2⟩ := hrz; obtain ⟨a, rfl, h3⟩ := h2; exact ⟨3, hk.d, rfl, h1, _, h3⟩
      | piece z => obtain ⟨h1, h2⟩ := hrz; obtain ⟨a, rfl, h3⟩ := h2; exact ⟨4, hk.d, rfl, h1, _, h3⟩
      | lot => obtain ⟨h1, h2⟩ := hrz; subst h2; exact ⟨5, hk, rfl, h1, trivial⟩
      | parts z => obtain ⟨h1, h2⟩ := hrz; obtain ⟨a, rfl, h3⟩ := h2; exact ⟨0, hk.d, rfl, h1, _, h3⟩
      | text z => obtain ⟨h1, h2⟩ := hrz; obtain ⟨a, rfl, h3⟩ := h2; exact ⟨6, hk.d, rfl, h1, _, h3⟩
    refine ⟨true, k.ex, fun _ a ha => ?_, fun z => by cases z⟩
    repeat tb_start
    refine isA_go k k.i0 hd ?_
    repeat tb_start
    refine isA_go k k.i1 hd ?_
    repeat tb_start
    refine isA_go k k.i2 hd ?_
    repeat tb_start
    refine isA_go k k.i3 hd ?_
    repeat tb_start
    have S0 : Ok ⟨H', H', []⟩ H' [] H' := Ok.start0 (Ex.refl H')
    refine new_lst S0 (by show 4 ≤ sizeLine; decide) fun p H1 S1 => ?_
    have hd1 : XdAt H1 d := hd.up S1.ex
    repeat tb_start
    refine isA_go k k.i4 hd1 ?_
    repeat tb_start
    refine isA_go k k.i5 hd1 ?_
    repeat tb_start
    refine isA_go k k.i6 hd1 ?_
    repeat tb_start
    refine new_lst S1 (by show 3 ≤ sizeLine; decide) fun p2 H2 S2 => ?_
    refine ⟨p, p2, _, _, rfl, rfl, (S2.own _ (.tail _ (.head _))).1, (S2.own _ (.head _)).1, by show 7 ≤ sizeLine; decide, ?_⟩
    have S3 := S2.mutN (o' := .lst ([.bl (decide (i = 0)), .bl (decide (i = 1)), .bl (decide (i = 2)), .bl (decide (i = 3)), .bl (decide (i = 4)), .bl (decide (i = 5)), .bl (decide (i = 6))] : List V)) 1 rfl
    replace S3 : Ok ⟨H', H', []⟩ H' [(p2, .lst [.bl (decide (i = 4)), .bl (decide (i = 5)), .bl (decide (i = 6))]), (p, .lst [.bl (decide (i = 0)), .bl (decide (i = 1)), .bl (decide (i = 2)), .bl (decide (i = 3)), .bl (decide (i = 4)), .bl (decide (i = 5)), .bl (decide (i = 6))])] _ := S3
    have hp3 := (S3.own _ (.tail _ (.head _))).1
    have hd3 : XdAt _ d := hd.up S3.ex
    repeat tb_start
    refine bmL (.inl (.inl hp3)) ?_
    repeat tb_start
    refine ⟨p, _, [.bool (decide (i = 0)), .bool (decide (i = 1)), .bool (decide (i = 2)), .bool (decide (i = 3)), .bool (decide (i = 4)), .bool (decide (i = 5)), .bool (decide (i = 6))], .bl true, .bool true, rfl, rfl, .inl (.inl hp3), .cons (.bl _) (.cons (.bl _) (.cons (.bl _) (.cons (.bl _) (.cons (.bl _) (.cons (.bl _) (.cons (.bl _) (.nil))))))), .bl true, rfl, rfl, by decide, ?_⟩
    repeat tb_start
    refine ⟨rfl, ?_⟩
    cases r with
    | part z =>
      obtain rfl : i = 1 := hi.symm
      obtain ⟨_, dd, rfl, h3⟩ := hrz
      have hdd := S3.ex _ _ h3
      refine r_bl ?_
      refine if_c0 (by decide) ?_
      repeat tb_start
      refine isA_ve k hd3 ?_
      repeat tb_start
      refine ⟨p, _, 0, .bl false, rfl, rfl, .inl (.inl hp3), rfl, ?_⟩
      repeat tb_start
      refine ⟨p, _, 1, .bl true, rfl, rfl, .inl (.inl hp3), rfl, ?_⟩
      repeat tb_start
      refine ⟨p, _, 1, .bl true, rfl, rfl, .inl (.inl hp3), rfl, ?_⟩
      repeat tb_start
      refine ⟨Z.at 1, hk.x, hk.n, ⟨_, rfl, rfl, rfl, dd, _, _, rfl, hdd, rfl, ?_⟩⟩
      repeat tb_start
      exact ⟨by show 2 ≤ sizeLine; decide, fun t ht => kk t _ (S3.ex.trans (Ex.new ht)) (S3.fresh ht).1 upd_same⟩
    | count =>
      obtain rfl : i = 2 := hi.symm
      refine r_bl ?_
      refine if_c0 (by decide) ?_
      repeat tb_start
      refine isA_ve k hd3 ?_
      repeat tb_start
      refine ⟨p, _, 0, .bl false, rfl, rfl, .inl (.inl hp3), rfl, ?_⟩
      repeat tb_start
      refine ⟨p, _, 1, .bl false, rfl, rfl, .inl (.inl hp3), rfl, ?_⟩
      repeat tb_start
      refine ⟨p, _, 3, .bl false, rfl, rfl, .inl (.inl hp3), rfl, ?_⟩
      repeat tb_start
      refine ⟨p, _, 4, .bl false, rfl, rfl, .inl (.inl hp3), rfl, ?_⟩
      repeat tb_start
      refine ⟨p, _, 6, .bl false, rfl, rfl, .inl (.inl hp3), rfl, ?_⟩
      repeat tb_start
      refine ⟨p, _, 2, .bl true, rfl, rfl, .inl (.inl hp3), rfl, ?_⟩
      repeat tb_start
      exact ⟨by show 2 ≤ sizeLine; decide, fun t ht => kk t _ (S3.ex.trans (Ex.new ht)) (S3.fresh ht).1 upd_same⟩
    | lacks z =>
      obtain rfl : i = 3 := hi.symm
      obtain ⟨_, dd, rfl, h3⟩ := hrz
      have hdd := S3.ex _ _ h3
      refine r_bl ?_
      refine if_c0 (by decide) ?_
      repeat tb_start
      refine isA_ve k hd3 ?_
      repeat tb_start
      refine ⟨p, _, 0, .bl false, rfl, rfl, .inl (.inl hp3), rfl, ?_⟩
      repeat tb_start
      refine ⟨p, _, 1, .bl false, rfl, rfl, .inl (.inl hp3), rfl, ?_⟩
      repeat tb_start
      refine ⟨p, _, 3, .bl true, rfl, rfl, .inl (.inl hp3), rfl, ?_⟩
      repeat tb_start
      refine ⟨p, _, 1, .bl false, rfl, rfl, .inl (.inl hp3), rfl, ?_⟩
      repeat tb_start
      refine ⟨Z.at 3, hk.x, hk.n, ⟨_, rfl, rfl, rfl, dd, _, _, rfl, hdd, rfl, ?_⟩⟩
      repeat tb_start
      exact ⟨by show 2 ≤ sizeLine; decide, fun t ht => kk t _ (S3.ex.trans (Ex.new ht)) (S3.fresh ht).1 upd_same⟩
    | piece z =>
      obtain rfl : i = 4 := hi.symm
      obtain ⟨_, dd, rfl, h3⟩ := hrz
      have hdd := S3.ex _ _ h3
      refine r_bl ?_
      refine if_c0 (by decide) ?_
      repeat tb_start
      refine isA_ve k hd3 ?_
      repeat tb_start
      refine ⟨p, _, 0, .bl false, rfl, rfl, .inl (.inl hp3), rfl, ?_⟩
      repeat tb_start
      refine ⟨p, _, 1, .bl false, rfl, rfl, .inl (.inl hp3), rfl, ?_⟩
      repeat tb_start
      refine ⟨p, _, 3, .bl false, rfl, rfl, .inl (.inl hp3), rfl, ?_⟩
      repeat tb_start
      refine ⟨p, _, 4, .bl true, rfl, rfl, .inl (.inl hp3), rfl, ?_⟩
      repeat tb_start
      refine ⟨Z.at 4, hk.x, hk.n, ⟨_, rfl, rfl, rfl, dd, _, _, rfl, hdd, rfl, ?_⟩⟩
      repeat tb_start
      exact ⟨by show 2 ≤ sizeLine; decide, fun t ht => kk t _ (S3.ex.trans (Ex.new ht)) (S3.fresh ht).1 upd_same⟩
    | lot =>
      obtain rfl : i = 5 := hi.symm
      refine r_bl ?_
      refine if_c0 (by decide) ?_
      repeat tb_start
      refine isA_ve k hd3 ?_
      repeat tb_start
      refine ⟨p, _, 0, .bl false, rfl, rfl, .inl (.inl hp3), rfl, ?_⟩
      repeat tb_start
      refine ⟨p, _, 1, .bl false, rfl, rfl, .inl (.inl hp3), rfl, ?_⟩
      repeat tb_start
      refine ⟨p, _, 3, .bl false, rfl, rfl, .inl (.inl hp3), rfl, ?_⟩
      repeat tb_start
      refine ⟨p, _, 4, .bl false, rfl, rfl, .inl (.inl hp3), rfl, ?_⟩
      repeat tb_start
      refine ⟨p, _, 6, .bl false, rfl, rfl, .inl (.inl hp3), rfl, ?_⟩
      repeat tb_start
      refine ⟨p, _, 2, .bl false, rfl, rfl, .inl (.inl hp3), rfl, ?_⟩
      repeat tb_start
      exact ⟨by show 2 ≤ sizeLine; decide, fun t ht => kk t _ (S3.ex.trans (Ex.new ht)) (S3.fresh ht).1 upd_same⟩
    | parts z =>
      obtain rfl : i = 0 := hi.symm
      obtain ⟨_, dd, rfl, h3⟩ := hrz
      have hdd := S3.ex _ _ h3
      refine r_bl ?_
      refine if_c0 (by decide) ?_
      repeat tb_start
      refine isA_ve k hd3 ?_
      repeat tb_start
      refine ⟨p, _, 0, .bl true, rfl, rfl, .inl (.inl hp3), rfl, ?_⟩
      repeat tb_start
      refine ⟨Z.at 0, hk.x, hk.n, ⟨_, rfl, rfl, rfl, dd, _, _, rfl, hdd, rfl, ?_⟩⟩
      repeat tb_start
      exact ⟨by show 2 ≤ sizeLine; decide, fun t ht => kk t _ (S3.ex.trans (Ex.new ht)) (S3.fresh ht).1 upd_same⟩
    | text z =>
      obtain rfl : i = 6 := hi.symm
      obtain ⟨_, dd, rfl, h3⟩ := hrz
      have hdd := S3.ex _ _ h3
      refine r_bl ?_
      refine if_c0 (by decide) ?_
      repeat tb_start
      refine isA_ve k hd3 ?_
      repeat tb_start
      refine ⟨p, _, 0, .bl false, rfl, rfl, .inl (.inl hp3), rfl, ?_⟩
      repeat tb_start
      refine ⟨p, _, 1, .bl false, rfl, rfl, .inl (.inl hp3), rfl, ?_⟩
      repeat tb_start
      refine ⟨p, _, 3, .bl false, rfl, rfl, .inl (.inl hp3), rfl, ?_⟩
      repeat tb_start
      refine ⟨p, _, 4, .bl false, rfl, rfl, .inl (.inl hp3), rfl, ?_⟩
      repeat tb_start
      refine ⟨p, _, 6, .bl true, rfl, rfl, .inl (.inl hp3), rfl, ?_⟩
      repeat tb_start
      refine ⟨Z.at 6, hk.x, hk.n, ⟨_, rfl, rfl, rfl, dd, _, _, rfl, hdd, rfl, ?_⟩⟩
      repeat tb_start
      exact ⟨by show 2 ≤ sizeLine; decide, fun t ht => kk t _ (S3.ex.trans (Ex.new ht)) (S3.fresh ht).1 upd_same⟩
/-- _law_kind as it stands behind the top -/
structure KindG (K : PySem.W.Frag) (mg : Str → Option Value) (Z : Exs) : Prop where
  fn : ∃ g fd, Fun K "_law_kind" "_law_kind" s__law_kind g fd ∧ mg "_law_kind" = some (.ref g) ∧ Binds K fd ["_law_call"] []
  n1 : mg "isinstance" = none
  n2 : mg "ValueError" = none
  kin : mg "KinError" = some (.ref Z.kin)
  g0 : GlV mg "BadParts" (.ref Z.parts)
  g1 : GlV mg "BadPart" (.ref Z.part)
  g2 : GlV mg "BadCount" (.ref Z.count)
  g3 : GlV mg "Lacks" (.ref Z.lacks)
  g4 : GlV mg "BadPiece" (.ref Z.piece)
  g5 : GlV mg "BadLot" (.ref Z.lot)
  g6 : GlV mg "BadText" (.ref Z.text)
theorem pe_kind {c PT : Addr} {q : Str} {k : Nat} {params : Arguments} {body : Expr} {scope : Scope} {t : XK → TE} {p lpos pos : Pos} (K : PySem.W.Frag) (G : KindG X.K X.mg Z) (TB : LamX.TabB X.base X.mg c PT) (hcode : X.env.code = .ref c) (hq : X.env.qual ++ "<lambda>" = q) (hr : Room (k + 2) X.A)
    (hg : Gl X "_law_kind") (L : LamX.LamS X.env.scope scope) (hdef : defaultsOf params X.env = ([], []))
    (hbind : ∀ (q : Str) (cl : List (Str × Addr)) (pm cv ctv : Value), bindArgs (PySem.W.kla_fn "<lambda>" q params body scope cl pm cv ctv) ⟨[], []⟩ = pure [])
    (hbody : ∀ (A : Around) (outer : List Env) (s : Shared) (H : Hp) (E : XK) (f c' : Addr), Room k (A.deeper (LamX.lamEnv X scope s.heap.objs.size f c')) → PE (LamX.lamCx X A outer s H E scope f c') body (t E)) (hK : X.K = K := by rfl) :
    PE X (.Call (.Name "_law_kind" p) [.Lambda params body scope lpos] [] pos) (tLamK PT q (TTkind K Z) t) := by
  subst hK
  obtain ⟨g, fd, F, hm, hb⟩ := G.fn
  obtain ⟨oc, od, kV, doc, pm, an, cdv, ct, osl, rfl, lk, hcd⟩ := F.ex
  exact pe_lamK hm F.kp lk hcd hb TB hcode hq hr (kind_gives G.n1 G.n2 G.kin G.g0 G.g1 G.g2 G.g3 G.g4 G.g5 G.g6 (by have := hr.un; omega)) hg sc__law_kind rfl (.inl rfl) L hdef hbind hbody
end
end LW

namespace LW
open PySem PySem.Spec PyProof.Rows L2 WK PM
theorem TTkind_mono {K : PySem.W.Frag} {Z : Exs} {tl tl' : XK → Hp → VK → Prop} {H : Hp} {Q : VK} (h : ∀ E Q, tl E H Q → tl' E H Q) (hT : TTkind K Z tl H Q) : TTkind K Z tl' H Q := h _ _ hT
section
variable {X : Cx} {Z : Exs}
/-- _law_kind(e), e a lambda that lies somewhere -/
theorem pe_kindV {q : Str} {k : Nat} {e : Expr} {te : TE} {p pos : Pos} (K : PySem.W.Frag) (G : KindG X.K X.mg Z) (hq : X.env.qual ++ "<lambda>" = q) (hr : Room (k + 2) X.A) (hg : Gl X "_law_kind") (he : PE X e te)
    (hst : starEach [e] X.env = (false, eval e X.env) :: starEach [] X.env) (hK : X.K = K := by rfl) : PE X (.Call (.Name "_law_kind" p) [e] [] pos) (fun σ H Q => tToV X q k (TTkind K Z) te σ σ H Q) := by
  subst hK
  obtain ⟨g, fd, F, hm, hb⟩ := G.fn
  obtain ⟨oc, od, kV, doc, pm, an, cdv, ct, osl, rfl, lk, hcd⟩ := F.ex
  exact pe_toV hm F.kp lk hcd hb hq hr (kind_gives G.n1 G.n2 G.kin G.g0 G.g1 G.g2 G.g3 G.g4 G.g5 G.g6 (by have := hr.un; omega)) TTkind_mono hg sc__law_kind rfl (.inl rfl) he hst
end
end LW
namespace LW
open PySem PySem.Spec PyProof.Rows L2 WK PM
/-- what is told of a refusal, as data -/
def rfDs : Rf → List PyData
  | .part z => [.str "part", .str z]
  | .count => [.str "count", .int 0]
  | .lacks z => [.str "lacks", .str z]
  | .piece z => [.str "piece", .str z]
  | .lot => [.str "lot", .int 0]
  | .parts i => [.str "parts", .int i]
  | .text i => [.str "text", .int i]
theorem dp_rf {K : PySem.W.Frag} {B : Hp} {t : Addr} {r : Rf} (h : B t = some (.tup (rfV r))) : Dp K B (.ref t) (.tuple (rfDs r)) := by
  refine Dp.ofTup h ?_
  cases r <;> exact .cons (.str _) (.cons (by first | exact .str _ | exact .int _) .nil)
theorem Rz.ex {X : Exs} {B H : Hp} {r : Rf} {c : Value} {d : Option Addr} (h : Rz X B r c d) (e : Ex B H) : Rz X H r c d := by
  cases r with
  | count => exact h
  | lot => exact h
  | part z => obtain ⟨h1, a, h2, h3⟩ := h; exact ⟨h1, a, h2, e _ _ h3⟩
  | lacks z => obtain ⟨h1, a, h2, h3⟩ := h; exact ⟨h1, a, h2, e _ _ h3⟩
  | piece z => obtain ⟨h1, a, h2, h3⟩ := h; exact ⟨h1, a, h2, e _ _ h3⟩
  | parts z => obtain ⟨h1, a, h2, h3⟩ := h; exact ⟨h1, a, h2, e _ _ h3⟩
  | text z => obtain ⟨h1, a, h2, h3⟩ := h; exact ⟨h1, a, h2, e _ _ h3⟩
end LW

namespace LW
open PySem PySem.Spec PyProof.Rows L2 WK PM
def sansT (H : Hp) (PT : Addr) : Hp := fun b => if b = PT then none else H b
theorem Ok.startT {H : Hp} {PT : Addr} (h : H PT = some (.tbl #[])) : Ok ⟨sansT H PT, H, [PT]⟩ (sansT H PT) [(PT, .tbl #[])] H :=
  Ok.start (L := [(PT, .tbl #[])]) (fun a o z => by
    unfold sansT at z
    split at z
    · cases z
    · exact z) (List.nodup_cons.mpr ⟨(fun z => nomatch z), List.nodup_nil⟩) fun p hp => by
    rw [List.mem_singleton.mp hp]
    exact ⟨h, if_pos rfl⟩
theorem sansT_sq {K : PySem.W.Frag} {H : Hp} {PT a : Addr} {xs : List V} (h : H PT = some (.tbl #[])) (hq : SqL K H a xs) : SqL K (sansT H PT) a xs := by
  have ne : ∀ {o : HO}, H a = some o → o ≠ .tbl #[] → a ≠ PT := fun {o} e n z => by
    rw [z, h] at e
    exact n (Option.some.inj e).symm
  rcases hq with (hq | ⟨o, hq⟩) | hq
  · exact .inl (.inl ((if_neg (ne hq (fun z => by cases z))).trans hq))
  · exact .inl (.inr ⟨o, (if_neg (ne hq (fun z => by cases z))).trans hq⟩)
  · exact .inr hq
def sansT2 (H : Hp) (PT PL : Addr) : Hp := fun b => if b = PT then none else if b = PL then none else H b
end LW

namespace LW
open PySem PySem.Spec PyProof.Rows L2 WK PM
/-! a row that can't be -/
def spIsRowN (K : PySem.W.Frag) (CP : Addr) : Sp := fun vs H Q _ => ∃ (B : Hp) (p dx a l : Addr) (v : V) (kvs : List (Key × V)) (names : List Str) (r : PRow), vs = [.ref p, v] ∧ Ex B H ∧ H p = some (.ins CP dx (fldsP a l)) ∧ Rd H a (.dK kvs) ∧ kvs.map (·.1) = names.map Sum.inr ∧
  Dp K B v (encRow r) ∧ SmallRow r ∧ ¬ GoodRow names r ∧ ∀ B' H', Ok ⟨B, H, []⟩ B' [] H' → Q (.bl false) H'
theorem unlike_le (ks : Nat → Key) : ∀ i, unlike ks i ≤ i
  | 0 => Nat.le_refl _
  | i + 1 => by
    have := unlike_le ks i
    unfold unlike
    split <;> omega
theorem unlike_all (ks : Nat → Key) : ∀ n, unlike ks n = n → ∀ j, j < n → seen ks j (ks j) = false
  | 0, _, j, h => absurd h (Nat.not_lt_zero _)
  | n + 1, h, j, hj => by
    have hle := unlike_le ks n
    unfold unlike at h
    by_cases hs : seen ks n (ks n) = true
    · rw [if_pos hs] at h; omega
    · rw [if_neg hs] at h
      rcases Nat.lt_succ_iff_lt_or_eq.mp hj with hj | rfl
      · exact unlike_all ks n (by omega) j hj
      · exact Bool.not_eq_true _ ▸ hs
theorem unlike_lt {ss : List Str} (h : ¬ ss.Nodup) : unlike (fun i => (ss.map fun s => (Sum.inr s : Key)).getD i (.inl 0)) ss.length < ss.length := by
  have hle := unlike_le (fun i => (ss.map fun s => (Sum.inr s : Key)).getD i (.inl 0)) ss.length
  rcases Nat.lt_or_eq_of_le hle with h1 | h1
  · exact h1
  · exfalso
    refine h (List.pairwise_iff_getElem.mpr fun i j hi hj hij e => ?_)
    have h2 := unlike_all _ _ h1 j hj
    unfold WK.seen at h2
    have h3 := List.any_eq_false.mp h2 i (List.mem_range.mpr hij)
    refine h3 (decide_eq_true ?_)
    dsimp only
    rw [List.getD_eq_getElem?_getD, List.getD_eq_getElem?_getD, List.getElem?_map, List.getElem?_map, List.getElem?_eq_getElem hi, List.getElem?_eq_getElem hj, e]
section
variable {P : Program} {w : World} {K : PySem.W.Frag} {mg : Str → Option Value} {base : Heap}
theorem ok_is_rowN {f CP : Addr} {fd : FuncData} (F : Fun K "is_row" "Parts.is_row" s_Parts_is_row f fd) (G_is_name : FnG P w K mg base 1 "is_name" ["word"] spIsName) (clP : Cls K CP) (nRows : NoAttr K CP "rows")
    (n_len : mg "len" = none) (n_all : mg "all" = none) (n_set : mg "set" = none) (c_MOST_LOT : GlI mg "MOST_LOT" 99) (c_MOST_LEAD : GlI mg "MOST_LEAD" 30) (c_MOST_NEED : GlI mg "MOST_NEED" 9) (c_MOST_STEPS : GlI mg "MOST_STEPS" 5)
    (c_MACHINES : GlI mg "MACHINES" 6) (c_MOST_MINUTES : GlI mg "MOST_MINUTES" 99) : FnOk P w K mg base CX0 2 f fd ["self", "row"] (spIsRowN K CP) := by
  refine F.ok sc_Parts_is_row (fun vs H Q E h => ?_) (fun cdv A outer s H vs Q E hr h => ?_)
  · obtain ⟨B, p, dx, a, l, v, kvs, names, r, rfl, _⟩ := h
    rfl
  · obtain ⟨B, p, dx, a, l, v, kvs, names, r, rfl, ex, hp, ha, hk, hv, ⟨sm1, sm2, sm3⟩, NG, k⟩ := h
    have S := Ok.start0 ex
    refine with_al (P := P) (w := w) (K := K) hr (fun al => ?_)
    refine ⟨_, (pss_cons (ps_asg (pv 1) (pg_tupU (n := 5) K (pgs_cons (pg_name (i := 2) sc_Parts_is_row.nd rfl (by first | exact Or.inl rfl | exact Or.inr rfl)) (pgs_cons (pg_name (i := 3) sc_Parts_is_row.nd rfl (by first | exact Or.inl rfl | exact Or.inr rfl)) (pgs_cons (pg_name (i := 4) sc_Parts_is_row.nd rfl (by first | exact Or.inl rfl | exact Or.inr rfl)) (pgs_cons (pg_name (i := 5) sc_Parts_is_row.nd rfl (by first | exact Or.inl rfl | exact Or.inr rfl)) (pgs_cons (pg_name (i := 6) sc_Parts_is_row.nd rfl (by first | exact Or.inl rfl | exact Or.inr rfl)) pgs_nil))))))) (pss_cons (ps_if (PW.pt (pw_or (pt_not (pt_val (pe_fn G_is_name (hr.mono (by first | decide | omega)) rfl (pa_cons (pv 2) pa_nil)))) (pw_or (pt_cmpR (opU al) (pv 2) (pe_fldU K (pv 0) rfl) rfl) (pw_or (pt_not (pt_chain (opU al) (opU al) pe_int (pv 5) (pe_gi c_MOST_LOT rfl))) (pw_or1 (pt_not (pt_chain (opU al) (opU al) pe_int (pv 6) (pe_gi c_MOST_LEAD rfl)))))))) (pss_one (ps_ret pe_bl)) pss_nil) (pss_cons (ps_setLc (i := 7) (own := [("part", 8), ("many", 9)]) al.calm sc_Parts_is_row.nd rfl rfl (sw_true rfl rfl rfl (by decide +kernel)) (pi_val al (pv 3)) (blkOk_by (own := [("part", 8), ("many", 9)]) (N := ["self", "row", "name", "needs", "steps", "lot", "lead", "others", "part", "many", "machine", "minutes"]) (sc := (defScope s_Parts_is_row)) (by decide +kernel)) (fun _ _ _ _ _ => (pg_tupU (n := 2) K (pgs_cons (pg_name (i := 8) sc_Parts_is_row.nd rfl (by first | exact Or.inl rfl | exact Or.inr rfl)) (pgs_cons (pg_name (i := 9) sc_Parts_is_row.nd rfl (by first | exact Or.inl rfl | exact Or.inr rfl)) pgs_nil)))) (fun _ _ _ _ _ => pts_nil) (fun _ _ _ _ _ => (pv 8))) (pss_cons (ps_if (PW.pt (pw_or (pt_cmpR (opU al) (pe_callB (callU al) (by rfl) n_len b_len (pa_cons (pe_callTy (callU al) (by rfl) n_set b_set (pa_cons (pv 7) pa_nil)) pa_nil)) (pe_callB (callU al) (by rfl) n_len b_len (pa_cons (pv 7) pa_nil)) (nomark _)) (pw_or1 (pt_not (pt_val (pe_callB (callU al) (by rfl) n_all b_all (pa_cons (pe_lc (own := [("part", 8)]) al.calm sc_Parts_is_row.nd (pi_val al (pv 7)) (blkOk_by (own := [("part", 8)]) (N := ["self", "row", "name", "needs", "steps", "lot", "lead", "others", "part", "many", "machine", "minutes"]) (sc := (defScope s_Parts_is_row)) (by decide +kernel)) (fun _ _ _ _ _ => (pg_name (i := 8) sc_Parts_is_row.nd rfl (by first | exact Or.inl rfl | exact Or.inr rfl))) (fun _ _ _ _ _ => pts_nil) (fun _ _ _ _ _ => (pe_cmpR (opU al) (pv 8) (pe_fldU K (pv 0) rfl) rfl))) pa_nil))))))) (pss_one (ps_ret pe_bl)) pss_nil) (pss_cons (ps_if (PW.pt (pw_or (pt_not (pt_val (pe_callB (callU al) (by rfl) n_all b_all (pa_cons (pe_lc (own := [("part", 8), ("many", 9)]) al.calm sc_Parts_is_row.nd (pi_val al (pv 3)) (blkOk_by (own := [("part", 8), ("many", 9)]) (N := ["self", "row", "name", "needs", "steps", "lot", "lead", "others", "part", "many", "machine", "minutes"]) (sc := (defScope s_Parts_is_row)) (by decide +kernel)) (fun _ _ _ _ _ => (pg_tupU (n := 2) K (pgs_cons (pg_name (i := 8) sc_Parts_is_row.nd rfl (by first | exact Or.inl rfl | exact Or.inr rfl)) (pgs_cons (pg_name (i := 9) sc_Parts_is_row.nd rfl (by first | exact Or.inl rfl | exact Or.inr rfl)) pgs_nil)))) (fun _ _ _ _ _ => pts_nil) (fun _ _ _ _ _ => (pe_chain (opU al) (opU al) pe_int (pv 9) (pe_gi c_MOST_NEED rfl)))) pa_nil)))) (pw_or1 (pt_cmpR (opU al) (pe_callB (callU al) (by rfl) n_len b_len (pa_cons (pv 4) pa_nil)) (pe_gi c_MOST_STEPS rfl) (nomark _))))) (pss_one (ps_ret pe_bl)) pss_nil) (pss_one (ps_ret (pe_callB (callU al) (by rfl) n_all b_all (pa_cons (pe_lc (own := [("machine", 10), ("minutes", 11)]) al.calm sc_Parts_is_row.nd (pi_val al (pv 4)) (blkOk_by (own := [("machine", 10), ("minutes", 11)]) (N := ["self", "row", "name", "needs", "steps", "lot", "lead", "others", "part", "many", "machine", "minutes"]) (sc := (defScope s_Parts_is_row)) (by decide +kernel)) (fun _ _ _ _ _ => (pg_tupU (n := 2) K (pgs_cons (pg_name (i := 10) sc_Parts_is_row.nd rfl (by first | exact Or.inl rfl | exact Or.inr rfl)) (pgs_cons (pg_name (i := 11) sc_Parts_is_row.nd rfl (by first | exact Or.inl rfl | exact Or.inr rfl)) pgs_nil)))) (fun _ _ _ _ _ => pts_nil) (fun _ _ _ _ _ => (pe_and (pe_chain (opU al) (opU al) pe_int (pv 10) (pe_gi c_MACHINES rfl)) (pe_one (pe_chain (opU al) (opU al) pe_int (pv 11) (pe_gi c_MOST_MINUTES rfl)))))) pa_nil))))))))), ?_⟩
    repeat tb_start
    refine r_gtupRow S hv fun v2 v3 h2 h3 => ?_
    repeat tb_start
    refine ⟨B, r.name, rfl, S.ex, sm1, fun B1 H1 T1 => ?_⟩
    have S1 := S.callP T1
    have e1 := T1.ex0
    repeat tb_start
    cases c1 : isNameM r.name
    · repeat tb_start
      exact k _ _ S1
    repeat tb_start
    by_cases c2 : r.name ∈ names
    · have yes : (valV kvs (.inr r.name)).isSome = true := valV_isSome_true (by
        rw [hk]
        exact List.mem_map.mpr ⟨_, c2, rfl⟩)
      rw [yes]
      repeat tb_start
      exact k _ _ S1
    have no : (valV kvs (.inr r.name)).isSome = false := valV_isSome_false (by
      rw [hk]
      intro z
      obtain ⟨x, hx, e⟩ := List.mem_map.mp z
      exact c2 (Sum.inr.inj e ▸ hx))
    rw [no]
    repeat tb_start
    refine ifd (fun c3 => ?_) (fun c3 => by repeat tb_start; exact k _ _ S1)
    repeat tb_start
    refine ifnd (fun c4 => ?_) (fun c4 => by repeat tb_start; exact k _ _ S1)
    repeat tb_start
    refine ifd (fun c5 => ?_) (fun c5 => by repeat tb_start; exact k _ _ S1)
    repeat tb_start
    refine ifnd (fun c6 => ?_) (fun c6 => by repeat tb_start; exact k _ _ S1)
    repeat tb_start
    refine lcPureT S1 (h2.up e1) (fun _ => true) (fun x => .str x.1) (by omega) ?_ ?_
    · intro x v B2 D acc H2 C Cs hx e2 S2 hv kC kS
      repeat tb_start
      refine r_gtupSI S2 hv ?_
      repeat tb_start
      refine ⟨rfl, ?_⟩
      repeat tb_start
      exact kC _ _ _ rfl (Ex.refl _) S2 (.str _)
    intro D acc B2 H2 e2 S2 hacc
    rw [filter_tt] at hacc
    have hD' : DpAll K B2 acc ((r.needs.map (·.1)).map PyData.str) := by rw [List.map_map]; exact hacc
    obtain ⟨B3, e3, S3, hD⟩ := S2.toData hD'
    repeat tb_start
    refine v_setOfD S3 hD (by rw [List.length_map]; omega) fun p4 H4 S4 => ?_
    repeat tb_start
    refine Or.elim (Classical.em (¬ (r.needs.map (·.1)).Nodup)) (fun c7 => ?_) (fun c7 => ?_)
    · have hlt := unlike_lt c7
      generalize unlike (fun i => ((r.needs.map (·.1)).map fun s => (Sum.inr s : Key)).getD i (.inl 0)) (r.needs.map (·.1)).length = u at S4 hlt
      rw [List.length_map] at hlt
      refine v_lenSet (S4.mem (.head _)) (by omega) ?_
      have S5 := S4.drop
      repeat tb_start
      exact k _ _ S5
    replace c7 := Classical.not_not.mp c7
    rw [unlike_strs c7] at S4
    refine v_lenSet (S4.mem (.head _)) (by rw [List.length_map]; omega) ?_
    have S5 := S4.drop
    repeat tb_start
    refine lcPureL S5 hD (fun _ => true) (fun z => .bool (decide (z ∈ names))) (by rw [List.length_map]; omega) ?_ ?_
    · intro x v B6 D6 acc6 H6 C Cs hx e6 S6 hv kC kS
      obtain rfl := hv.str_inv
      repeat tb_start
      refine ⟨rfl, ?_⟩
      repeat tb_start
      have yes : (valV kvs (.inr x)).isSome = decide (x ∈ names) := by
        by_cases hin : x ∈ names
        · rw [decide_eq_true hin]
          exact valV_isSome_true (by rw [hk]; exact List.mem_map.mpr ⟨_, hin, rfl⟩)
        · rw [decide_eq_false hin]
          refine valV_isSome_false (by
            rw [hk]
            intro z
            obtain ⟨y, hy, e⟩ := List.mem_map.mp z
            exact hin (Sum.inr.inj e ▸ hy))
      rw [yes]
      exact kC _ _ _ rfl (Ex.refl _) S6 (.bl _)
    intro D6 acc6 B6 H6 e6 S6 hacc6
    rw [filter_tt] at hacc6
    obtain ⟨B7, e7, S7, hD7⟩ := S6.toData (ds := ((r.needs.map (·.1)).map fun z => decide (z ∈ names)).map PyData.bool) (by rw [List.map_map]; exact hacc6)
    repeat tb_start
    refine v_allD S7 hD7 ?_
    have hall : (((r.needs.map (·.1)).map fun z => decide (z ∈ names)).all id) = true ↔ ∀ x ∈ r.needs, x.1 ∈ names := by
      rw [List.all_eq_true]
      constructor
      · intro h x hx
        exact of_decide_eq_true (h _ (List.mem_map.mpr ⟨x.1, List.mem_map.mpr ⟨x, hx, rfl⟩, rfl⟩))
      · rintro h y hy
        obtain ⟨z, hz, rfl⟩ := List.mem_map.mp hy
        obtain ⟨x, hx, rfl⟩ := List.mem_map.mp hz
        exact decide_eq_true (h x hx)
    cases c8 : (((r.needs.map (·.1)).map fun z => decide (z ∈ names)).all id)
    · repeat tb_start
      exact k _ _ S7
    replace c8 := hall.mp c8
    repeat tb_start
    refine lcPureT S7 (h2.up (e1.trans (e2.trans (e3.trans (e6.trans e7))))) (fun _ => true) (fun x => .bool (decide (1 ≤ x.2) && decide (x.2 ≤ 9))) (by omega) ?_ ?_
    · intro x v B8 D8 acc8 H8 C Cs hx e8 S8 hv kC kS
      repeat tb_start
      refine r_gtupSI S8 hv ?_
      repeat tb_start
      refine ⟨rfl, ?_⟩
      repeat tb_start
      refine ifd (fun m1 => ?_) (fun m1 => ?_)
      · repeat tb_start
        rw [decide_eq_true m1, Bool.true_and] at kC
        exact kC _ _ _ rfl (Ex.refl _) S8 (.bl _)
      · rw [decide_eq_false m1, Bool.false_and] at kC
        exact kC _ _ _ rfl (Ex.refl _) S8 (.bl _)
    intro D8 acc8 B8 H8 e8 S8 hacc8
    rw [filter_tt] at hacc8
    have hacc8' : DpAll K B8 acc8 ((r.needs.map fun x => decide (1 ≤ x.2) && decide (x.2 ≤ 9)).map PyData.bool) := by rw [List.map_map]; exact hacc8
    obtain ⟨B9, e9, S9, hD9⟩ := S8.toData hacc8'
    repeat tb_start
    refine v_allD S9 hD9 ?_
    cases c9 : ((r.needs.map fun x => decide (1 ≤ x.2) && decide (x.2 ≤ 9)).all id)
    · repeat tb_start
      exact k _ _ S9
    replace c9 : ∀ x ∈ r.needs, 1 ≤ x.2 ∧ x.2 ≤ 9 := fun x hx => by
      have := List.all_eq_true.mp c9 _ (List.mem_map.mpr ⟨x, hx, rfl⟩)
      exact ⟨of_decide_eq_true ((Bool.and_eq_true _ _ ▸ this : _ ∧ _).1), of_decide_eq_true ((Bool.and_eq_true _ _ ▸ this : _ ∧ _).2)⟩
    repeat tb_start
    refine ifd (fun c10 => ?_) (fun c10 => ?_)
    · repeat tb_start
      exact k _ _ S9
    rw [List.length_map] at c10
    repeat tb_start
    refine lcPureT S9 (h3.up (e1.trans (e2.trans (e3.trans (e6.trans (e7.trans (e8.trans e9))))))) (fun _ => true) (fun x => .bool (decide (0 ≤ x.1) && decide (x.1 < 6) && (decide (1 ≤ x.2) && decide (x.2 ≤ 99)))) (by omega) ?_ ?_
    · intro x v Ba Da acca Ha C Cs hx ea Sa hv kC kS
      repeat tb_start
      refine r_gtupII Sa hv ?_
      repeat tb_start
      refine ⟨rfl, ?_⟩
      repeat tb_start
      refine ifd (fun m1 => ?_) (fun m1 => ?_)
      · rw [decide_eq_true m1, Bool.true_and] at kC
        repeat tb_start
        refine ifd (fun m2 => ?_) (fun m2 => ?_)
        · rw [decide_eq_true m2, Bool.true_and] at kC
          repeat tb_start
          refine ifd (fun m3 => ?_) (fun m3 => ?_)
          · rw [decide_eq_true m3, Bool.true_and] at kC
            repeat tb_start
            exact kC _ _ _ rfl (Ex.refl _) Sa (.bl _)
          · rw [decide_eq_false m3, Bool.false_and] at kC
            repeat tb_start
            exact kC _ _ _ rfl (Ex.refl _) Sa (.bl _)
        · rw [decide_eq_false m2, Bool.false_and] at kC
          repeat tb_start
          exact kC _ _ _ rfl (Ex.refl _) Sa (.bl _)
      · rw [decide_eq_false m1, Bool.false_and, Bool.false_and] at kC
        repeat tb_start
        exact kC _ _ _ rfl (Ex.refl _) Sa (.bl _)
    intro Da acca Ba Ha ea Sa hacca
    rw [filter_tt] at hacca
    have hacca' : DpAll K Ba acca ((r.steps.map fun x => decide (0 ≤ x.1) && decide (x.1 < 6) && (decide (1 ≤ x.2) && decide (x.2 ≤ 99))).map PyData.bool) := by rw [List.map_map]; exact hacca
    obtain ⟨Bb, eb, Sb, hDb⟩ := Sa.toData hacca'
    repeat tb_start
    refine v_allD Sb hDb ?_
    cases c11 : ((r.steps.map fun x => decide (0 ≤ x.1) && decide (x.1 < 6) && (decide (1 ≤ x.2) && decide (x.2 ≤ 99))).all id)
    · exact k _ _ Sb
    exfalso
    refine NG ⟨c1, c2, ⟨c3, c4⟩, ⟨c5, c6⟩, c7, c8, c9, by omega, fun x hx => ?_⟩
    have := List.all_eq_true.mp c11 _ (List.mem_map.mpr ⟨x, hx, rfl⟩)
    simp only [id_eq, Bool.and_eq_true, decide_eq_true_eq] at this
    exact ⟨⟨this.1.1, this.1.2⟩, this.2.1, this.2.2⟩
end
end LW

namespace LW
open PySem PySem.Spec PyProof.Rows L2 WK PM
abbrev s_BadParts___init__ : Stmt := inClass (topS 3) 0
theorem sc_BadParts___init__ : FnScope ["self", "at"] ["self", "at"] (defScope s_BadParts___init__) := ⟨rfl, rfl, rfl, by decide +kernel, rfl, by decide +kernel, by decide +kernel⟩
/-! a book that can't be -/
def spPInitR (K : PySem.W.Frag) (X : Exs) (CP : Addr) : Sp := fun vs H _ E => ∃ (B : Hp) (p dx : Addr) (v : V) (rs : List PRow) (at_ : Nat) (r : PRow), vs = [.ref p, v] ∧ Ok ⟨B, H, [p]⟩ B [(p, .ins CP dx [])] H ∧ Dpl K B v (rs.map encRow) ∧ BadAt rs at_ r ∧
  ∀ c d B' H', Ex B B' → Ok ⟨B, H, [p]⟩ B' [] H' → Rz X B' (.parts at_) c d → E c d H'
section
variable {P : Program} {w : World} {K : PySem.W.Frag} {mg : Str → Option Value} {base : Heap} {X : Exs}
theorem oki_BadParts {f CB CKE : Addr} {mc : Value} {fd : FuncData} (F : Fun K "__init__" "BadParts.__init__" s_BadParts___init__ f fd) (m_KE : mg "KinError" = some (.ref CKE)) (EB : ExBase K CKE mc) (T : OexC K CB) (nf : PySem.W.findIn K (.ref CB) "at" = some none) : FnOk P w K mg base CX0 1 f fd ["self", "at"] (spExI CB "at") := by
  refine F.ok sc_BadParts___init__ (fun vs H Q E h => ?_) (fun cdv A outer s H vs Q E hr h => ?_)
  · obtain ⟨a, y, rfl, _⟩ := h
    rfl
  · obtain ⟨a, y, rfl, ha, kk⟩ := h
    refine ⟨_, pss_cons (ps_expr (pe_baseinit EB m_KE rfl (pa_cons (pv 0) (pa_cons (pv 1) pa_nil)))) (pss_one (ps_ost (pv 0) (pv 1))), ?_⟩
    exact ⟨_, rfl, _, rfl, a, CB, [y], rfl, (by show 1 ≤ 1000; decide), T, ha, _, rfl, _, rfl, a, CB, rfl, T, nf, .inl ⟨ha, fun dx h1 h2 => kk dx h1 h2⟩⟩
theorem okR_parts_init {f CP : Addr} {fd : FuncData} (F : Fun K "__init__" "Parts.__init__" s_Parts___init__ f fd) (GB_is_row : MtG P w K mg base 2 CP "is_row" ["self", "row"] (fun vs H Q E => spIsRow K CP vs H Q E ∨ spIsRowN K CP vs H Q E)) (G_led_to : MtG P w K mg base 1 CP "led_to" ["self", "needs"] (spLedTo K CP))
    (clP : Cls K CP) (nRows : NoAttr K CP "rows") (nLed : NoAttr K CP "led") (n_enumerate : mg "enumerate" = none) (n_tuple : mg "tuple" = none) (n_sum : mg "sum" = none) (c_MOST_PARTS : GlI mg "MOST_PARTS" 12) (c_MOST_LED : GlI mg "MOST_LED" 200) (X_BadParts : ExK P w K mg base "BadParts" X.parts "at") : FnOk P w K mg base (L2.CX P w) 3 f fd ["self", "told"] (spPInitR K X CP) := by
  refine F.okX sc_Parts___init__ (fun vs H Q E h => ?_) (fun cdv A outer s H vs Q E hr h => ?_)
  · obtain ⟨B, p, dx, v, rs, at_, r, rfl, _⟩ := h
    rfl
  · obtain ⟨B, p, dx, v, rs, at_, r, rfl, S, hv, G, k⟩ := h
    obtain ⟨hat, hat12⟩ := G.len
    refine with_al (P := P) (w := w) (K := K) hr (fun al => ?_)
    refine ⟨_, (pss_cons (ps_fldK K (pv 0) pe_dnewK rfl) (pss_cons (ps_fldK K (pv 0) pe_dnewK rfl) (pss_one (ps_for (passes_of rfl) rfl (pi_enumV (by rfl) n_enumerate (pa_cons (pv 1) pa_nil)) (pg_tupU (n := 2) K (pgs_cons (pg_name (i := 2) sc_Parts___init__.nd rfl (by first | exact Or.inl rfl | exact Or.inr rfl)) (pgs_cons (pg_name (i := 3) sc_Parts___init__.nd rfl (by first | exact Or.inl rfl | exact Or.inr rfl)) pgs_nil))) (pss_cons (ps_if (PW.pt (pw_or (pt_cmpR (opU al) (pv 2) (pe_gi c_MOST_PARTS rfl) (nomark _)) (pw_or1 (pt_not (pt_val (pe_mth GB_is_row (hr.mono (by first | decide | omega)) (pv 0) (pa_cons (pv 3) pa_nil))))))) (pss_one (ps_rzK X_BadParts (takes_of rfl rfl rfl rfl) (hr.mono (by first | decide | omega)) rfl rfl (pv 2))) pss_nil) (pss_cons (ps_asg (pv 3) (pg_tupU (n := 5) K (pgs_cons (pg_name (i := 4) sc_Parts___init__.nd rfl (by first | exact Or.inl rfl | exact Or.inr rfl)) (pgs_cons (pg_name (i := 5) sc_Parts___init__.nd rfl (by first | exact Or.inl rfl | exact Or.inr rfl)) (pgs_cons (pg_name (i := 6) sc_Parts___init__.nd rfl (by first | exact Or.inl rfl | exact Or.inr rfl)) (pgs_cons (pg_name (i := 7) sc_Parts___init__.nd rfl (by first | exact Or.inl rfl | exact Or.inr rfl)) (pgs_cons (pg_name (i := 8) sc_Parts___init__.nd rfl (by first | exact Or.inl rfl | exact Or.inr rfl)) pgs_nil))))))) (pss_cons (ps_asg (pe_tup (pa_cons (pe_callTy (callU al) (by rfl) n_tuple b_tuple (pa_cons (pv 5) pa_nil)) (pa_cons (pe_callTy (callU al) (by rfl) n_tuple b_tuple (pa_cons (pv 6) pa_nil)) (pa_cons (pv 7) (pa_cons (pv 8) pa_nil))))) (pg_sub (pe_fldU K (pv 0) rfl) (pv 4) (setU al))) (pss_cons (ps_asg (pe_mth G_led_to (hr.mono (by first | decide | omega)) (pv 0) (pa_cons (pv 5) pa_nil)) (pg_sub (pe_fldU K (pv 0) rfl) (pv 4) (setU al))) (pss_one (ps_frz (ps_if (pt_cmpR (opU al) (pe_sumVals al.calm (by rfl) n_sum (pe_ix (ixU al) (pe_fldU K (pv 0) rfl) (pv 4) (fun _ _ => rfl))) (pe_gi c_MOST_LED rfl) (nomark _)) (pss_one (ps_rzK X_BadParts (takes_of rfl rfl rfl rfl) (hr.mono (by first | decide | omega)) rfl rfl (pv 2))) pss_nil))))))))))), ?_⟩
    repeat tb_start
    refine new_dK S fun a H1 S1 => ?_
    repeat tb_start
    refine sfdQ 1 S1 rfl clP nRows (by decide) rfl fun H2 S2 => ?_
    repeat tb_start
    refine new_dK S2 fun l H3 S3 => ?_
    repeat tb_start
    refine sfdQ 2 S3 rfl clP nLed (by show 1 < 1000; decide) rfl fun H4 S4 => ?_
    replace S4 : Ok ⟨B, H, [p]⟩ B [(l, .dK []), (a, .dK []), (p, .ins CP dx (fldsP a l))] H4 := S4
    repeat tb_start
    refine enuD S4 hv fun J src => ?_
    refine forDS src S4 (fun i σ B1 L1 => ∃ x1 x2 x3 x4 x5 x6 x7 rkv lkv, σ = [some (.ref p), some v, x1, x2, x3, x4, x5, x6, x7] ∧ i ≤ at_ ∧ RowKV K B1 rkv (rs.take i) ∧ LedKV B1 lkv (ledOf (rs.take i)) ∧ L1 = [(l, .dK lkv), (a, .dK rkv), (p, .ins CP dx (fldsP a l))])
      (fun i σ B1 L1 e _ => e) ?_ ?_ ?_
    · exact ⟨_, _, _, _, _, _, _, _, _, rfl, Nat.zero_le _, .nil, .nil, rfl⟩
    · rintro i y xv σ B1 B3 L1 H5 hget ⟨_, _, _, _, _, _, _, rkv, lkv, rfl, hia, RK0, LK0, rfl⟩ e3 e4 S5 ⟨T, u, rfl, hT, hu⟩
      obtain ⟨hr1, hr2⟩ := zipIdx_at hget
      have RK := RK0.up e4
      have LK := LK0.up e4
      have hi : i < rs.length := (List.getElem?_eq_some_iff.mp hr1).1
      have GT := G.nd hia
      refine r_gtupB S5 hT rfl ?_
      rcases G.at_row hr1 hia with ⟨rfl, ea⟩ | ⟨h12, ea, sm, NR⟩ | ⟨h12, hi12, R, hsum2⟩
      · have yI : ((12 : Nat) : Int) = 12 := rfl
        repeat tb_start
        intro d hd
        have hs : ((y.2 : Nat) : Int) = ((at_ : Nat) : Int) := by omega
        have ST := S5.thin (List.nil_sublist _)
        exact k _ _ _ _ ((e3.trans e4).trans (ST.exB hd)) (ST.newB hd) ⟨rfl, d, rfl, by rw [hs]; exact upd_same⟩
      · have nI : ¬ ((i : Int) = 12) := fun z => h12 (by omega)
        repeat tb_start
        refine .inr ⟨B3, p, dx, a, l, u, rkv, (rs.take i).map (·.name), y.1, rfl, S5.ex, by kts_caught, by kts_caught, RK.keys, hu, sm, NR, fun B6 H6 T6 => ?_⟩
        have S6 := S5.callP T6
        have e6 := T6.ex0
        repeat tb_start
        intro d hd
        have hs : ((y.2 : Nat) : Int) = ((at_ : Nat) : Int) := by omega
        have ST := S6.thin (List.nil_sublist _)
        exact k _ _ _ _ ((e3.trans (e4.trans e6)).trans (ST.exB hd)) (ST.newB hd) ⟨rfl, d, rfl, by rw [hs]; exact upd_same⟩
      have nI : ¬ ((i : Int) = 12) := fun z => h12 (by omega)
      repeat tb_start
      have names_len : ((rs.take i).map (·.name)).length ≤ 12 := by rw [List.length_map, List.length_take]; omega
      refine .inl ⟨B3, p, dx, a, l, u, rkv, (rs.take i).map (·.name), y.1, rfl, S5.ex, by kts_caught, by kts_caught, RK.keys, hu, R, names_len, fun B6 H6 T6 => ?_⟩
      have S6 := S5.callP T6
      have e6 := T6.ex0
      repeat tb_start
      refine r_gtupRow S6 (hu.up e6) fun v2 v3 h2 h3 => ?_
      repeat tb_start
      refine v_tupDT S6 h2 ?_
      repeat tb_start
      refine v_tupDT S6 h3 ?_
      repeat tb_start
      refine new_tupD S6 (.cons h2 (.cons h3 (.cons (.int _) (.cons (.int _) .nil)))) (by simp) fun t B7 H7 e7 S7 ht => ?_
      repeat tb_start
      refine v_setKN (k := .inr y.1.name) 1 S7 rfl rfl ?_ fun H8 S8 => ?_
      · have := congrArg List.length RK.keys
        rw [List.length_map, List.length_map] at this
        rw [this, sizeLine_eq]
        omega
      have no : valV rkv (.inr y.1.name) = none := valV_none (by
        rw [RK.keys]
        intro z
        obtain ⟨x, hx, e⟩ := List.mem_map.mp z
        exact R.new (Sum.inr.inj e ▸ hx))
      rw [putK_new _ no] at S8
      replace S8 : Ok ⟨B, H, [p]⟩ B7 [(l, .dK lkv), (a, .dK (rkv ++ [(.inr y.1.name, .ref t)])), (p, .ins CP dx (fldsP a l))] H8 := S8
      have RK8 : RowKV K B7 (rkv ++ [(.inr y.1.name, .ref t)]) (rs.take (i + 1)) := by
        rw [List.take_add_one, hr1]
        exact ((RK.up e6).up e7).snoc ht
      have LK8 := (LK.up e6).up e7
      repeat tb_start
      refine ⟨B7, p, dx, a, l, v2, _, lkv, (rs.take i).map (·.name) ++ [y.1.name], ledOf (rs.take i), y.1.needs, rfl, S8.ex, by kts_caught, S8.mem (.tail _ (.head _)), (S8.own _ (.tail _ (.head _))).2, ?_, ?_, ?_, by kts_caught, LK8, h2.up e7, needs_row GT R, fun D B9 H9 e9 T9 => ?_⟩
      · rw [← take_succ_map hr1]
        exact RK8.keys
      · rw [← take_succ_map hr1]
        rw [take_succ_map hr1]
        exact names_row GT R
      · rw [← take_succ_map hr1, List.length_map, List.length_take]; omega
      have S9 := S8.callN T9
      have hm : ledTo ((rs.take i).map (·.name) ++ [y.1.name]) (ledOf (rs.take i)) y.1.needs = ledTo ((ledOf (rs.take i)).map (·.1) ++ [y.1.name]) (ledOf (rs.take i)) y.1.needs := by rw [ledOf_names]
      rw [hm] at S9
      rw [hm] at hsum2
      have hstep : ledOf (rs.take (i + 1)) = ledOf (rs.take i) ++ [(y.1.name, ledTo ((ledOf (rs.take i)).map (·.1) ++ [y.1.name]) (ledOf (rs.take i)) y.1.needs)] := ledOf_take hr1
      generalize ledTo ((ledOf (rs.take i)).map (·.1) ++ [y.1.name]) (ledOf (rs.take i)) y.1.needs = m at S9 hstep hsum2
      repeat tb_start
      refine v_setKN (k := .inr y.1.name) 1 S9 rfl rfl ?_ fun H10 S10 => ?_
      · have := congrArg List.length LK.keys
        have h2 := congrArg List.length (ledOf_names (rs.take i))
        rw [List.length_map, List.length_map] at this h2
        rw [List.length_take] at h2
        rw [this, sizeLine_eq]
        omega
      have noL : valV lkv (.inr y.1.name) = none := valV_none (by
        rw [LK.keys]
        intro z
        obtain ⟨x, hx, e⟩ := List.mem_map.mp z
        refine R.new ?_
        rw [← ledOf_names]
        exact List.mem_map.mpr ⟨x, hx, Sum.inr.inj e⟩)
      rw [putK_new _ noL] at S10
      replace S10 : Ok ⟨B, H, [p]⟩ B9 [(D, .dK (kvI m)), (l, .dK (lkv ++ [(.inr y.1.name, .ref D)])), (a, .dK (rkv ++ [(.inr y.1.name, .ref t)])), (p, .ins CP dx (fldsP a l))] H10 := S10
      repeat tb_start
      refine frzS (S10.own _ (.head _)).1 trivial fun od => ?_
      obtain ⟨B11, e11, hD, S11⟩ := S10.freezeD (od := od)
      repeat tb_start
      refine v_ixDS (kvs := lkv ++ [(.inr y.1.name, .ref D)]) (by kts_caught) (by rw [valV_snoc _ _ _ _ noL, if_pos rfl]) ?_
      refine sumQ (by kts_caught) (kvI_vals m) ?_
      rcases hsum2 with ⟨hlt, hsum⟩ | ⟨ea, hsum⟩
      case inr =>
        repeat tb_start
        intro d hd
        have hs : ((y.2 : Nat) : Int) = ((at_ : Nat) : Int) := by omega
        have ST := S11.thin (List.nil_sublist _)
        exact k _ _ _ _ ((e3.trans (e4.trans (e6.trans (e7.trans (e9.trans e11))))).trans (ST.exB hd)) (ST.newB hd) ⟨rfl, d, rfl, by rw [hs]; exact upd_same⟩
      repeat tb_start
      refine NxE.mk' S11 (e3.trans <| e4.trans (e6.trans (e7.trans (e9.trans e11)))) ?_
      refine ⟨_, _, _, _, _, _, _, _, _, rfl, by omega, (RK8.up e9).up e11, ?_, rfl⟩
      rw [hstep]
      exact ((LK8.up e9).up e11).snoc hD
    · rintro σ B1 L1 H5 ⟨_, _, _, _, _, _, _, rkv, lkv, rfl, hia, RK, LK, rfl⟩ e3 S5
      rw [List.length_zipIdx] at hia
      omega
end
end LW

namespace LW
open PySem PySem.Spec PyProof.Rows L2 WK PM
/-! any word read as a number -/
def spNumX : Sp := fun vs H Q _ => ∃ (z : Str), vs = [.str z] ∧ z.length ≤ 3500 ∧ Q (.int (numM z)) H
section
variable {P : Program} {w : World} {K : PySem.W.Frag} {mg : Str → Option Value} {base : Heap}
theorem ok_number_inX {f : Addr} {fd : FuncData} (F : Fun K "number_in" "number_in" s_number_in f fd) (n_len : mg "len" = none) (n_int : mg "int" = none) (c_FIGURES : GlS mg "FIGURES" figs) : FnOk P w K mg base CX0 1 f fd ["word"] spNumX := by
  refine F.ok sc_number_in (fun vs H Q E h => ?_) (fun cdv A outer s H vs Q E hr h => ?_)
  · obtain ⟨z, rfl, _⟩ := h
    rfl
  · obtain ⟨z, rfl, hz, k⟩ := h
    refine with_al (P := P) (w := w) (K := K) hr (fun al => ?_)
    refine ⟨_, (pss_cons (ps_if (PW.pt (pw_or (pt_not (pt_chain (opU al) (opU al) pe_int (pe_callB (callU al) (by rfl) n_len b_len (pa_cons (pv 0) pa_nil)) pe_int)) (pw_or (pt_cmpR (opU al) (pe_bmU K PySem.F.plainAttrs_str PySem.F.slot_str_strip PySem.F.type_str_strip (metU al) (pv 0) (pa_cons (pe_gs c_FIGURES rfl) pa_nil)) pe_str (nomark _)) (pw_or1 (PW.pt (pw_and (pt_cmpR (opU al) (pe_ix (ixU al) (pv 0) pe_int (fun _ _ => rfl)) pe_str (nomark _)) (pw_and1 (pt_cmpR (opU al) (pv 0) pe_str (nomark _))))))))) (pss_one (ps_ret (pe_un un_neg pe_int))) pss_nil) (pss_one (ps_ret (pe_callTy (callU al) (by rfl) n_int b_int (pa_cons (pv 0) pa_nil))))), ?_⟩
    have hll : z.cps.toList.length = z.length := Array.length_toList
    cases hnum : isNum z
    · have q : Q (.int (-1)) H := by rw [← numM_no hnum]; exact k
      clear k
      repeat tb_start
      refine ifd (fun c1 => ?_) (fun c1 => ?_)
      · repeat tb_start
        refine ifnd (fun c2 => ?_) (fun c2 => ?_)
        · repeat tb_start
          refine v_stripS (by rw [sizeLine_eq]; omega) ?_
          repeat tb_start
          cases hd : z.cps.toList.all isDig
          · have hs := strip_ne (z := z) (by omega) hd
            refine ifndF hs ?_
            repeat tb_start
            exact q
          · refine ifnd (fun c3 => ?_) (fun c3 => ?_)
            · repeat tb_start
              have hc : atI z.cps.toList 0 = some (z.cps.toList.getD 0 0) := by
                refine atI_nat (j := 0) ?_
                rw [List.getD_eq_getElem?_getD, List.getElem?_eq_getElem (by omega)]
                rfl
              have hbad : ¬ (z = "0" ∨ z.cps.toList.getD 0 0 ≠ 48) := fun hh => by
                have : isNum z = true := by
                  unfold isNum
                  rw [hd, decide_eq_true c1, decide_eq_true c2, Bool.true_and, Bool.true_and, Bool.true_and, Bool.or_eq_true, decide_eq_true_eq, decide_eq_true_eq]
                  exact hh
                rw [hnum] at this
                cases this
              have h48 : z.cps.toList.getD 0 0 = 48 := Classical.not_not.mp fun hh => hbad (.inr hh)
              rw [h48] at hc
              refine v_ixS (by rw [sizeLine_eq]; omega) hc ?_
              repeat tb_start
              refine ifdT (by decide +kernel) ?_
              repeat tb_start
              refine ifndF (fun hh => hbad (.inl hh)) ?_
              repeat tb_start
              exact q
            · repeat tb_start
              exact q
        · repeat tb_start
          exact q
      · repeat tb_start
        exact q
    · obtain ⟨i, ⟨h0, h1⟩, rfl⟩ := isNum_some hnum
      rw [numM_numS h0 h1] at k
      obtain ⟨⟨l1, l2⟩, st, it, z0⟩ := num_fact ⟨i.toNat, by omega⟩
      have hi : (((⟨i.toNat, by omega⟩ : Fin 100).val : Nat) : Int) = i := by show ((i.toNat : Nat) : Int) = i; omega
      rw [hi] at l1 l2 st it z0
      repeat tb_start
      refine v_stripS (by rw [sizeLine_eq]; omega) ?_
      rw [st]
      repeat tb_start
      refine ifndT rfl ?_
      repeat tb_start
      have hlen : (numS i).cps.toList.length = (numS i).length := Array.length_toList
      have hc : atI (numS i).cps.toList 0 = some ((numS i).cps.toList.getD 0 0) := by
        refine atI_nat (j := 0) ?_
        rw [List.getD_eq_getElem?_getD, List.getElem?_eq_getElem (by omega)]
        rfl
      refine v_ixS (by rw [sizeLine_eq]; omega) hc ?_
      repeat tb_start
      refine ifd (fun hh => ?_) (fun hh => ?_)
      · have h48 : (numS i).cps.toList.getD 0 0 = 48 := by
          have e1 : (⟨#[(numS i).cps.toList.getD 0 0]⟩ : Str) = ⟨#[48]⟩ := hh
          have e2 := congrArg (fun z : Str => z.cps.toList) e1
          simpa using e2
        have e0 := z0 h48
        repeat tb_start
        refine v_intS it (by omega) ?_
        exact k
      · repeat tb_start
        refine v_intS it (by omega) ?_
        exact k
end
end LW

namespace LW
open PySem PySem.Spec PyProof.Rows L2 WK PM
/-! the law's own look at words -/
abbrev s__law_is_number : Stmt := topS 39
theorem sc__law_is_number : FnScope ["_law_word", "_law_good", "_law_sign"] ["_law_word"] (defScope s__law_is_number) := ⟨rfl, rfl, rfl, by decide +kernel, rfl, by decide +kernel, by decide +kernel⟩
abbrev s__law_is_name : Stmt := topS 40
theorem sc__law_is_name : FnScope ["_law_word", "_law_sign"] ["_law_word"] (defScope s__law_is_name) := ⟨rfl, rfl, rfl, by decide +kernel, rfl, by decide +kernel, by decide +kernel⟩
def spLNum : Sp := fun vs H Q _ => ∃ (B : Hp) (z : Str), vs = [.str z] ∧ Ex B H ∧ z.length ≤ 3500 ∧ ∀ B' H', Ok ⟨B, H, []⟩ B' [] H' → Q (.bl (isNum z)) H'
def spLName : Sp := fun vs H Q _ => ∃ (B : Hp) (z : Str), vs = [.str z] ∧ Ex B H ∧ z.length ≤ 3500 ∧ ∀ B' H', Ok ⟨B, H, []⟩ B' [] H' → Q (.bl (isNameM z)) H'
theorem filt_len {α : Type} {p : α → Bool} : ∀ {l : List α}, (l.filter p).length = l.length → l.all p = true
  | [], _ => rfl
  | a :: l, h => by
    have h1 := List.length_filter_le p l
    cases e : p a with
    | true =>
      rw [List.filter_cons_of_pos e, List.length_cons, List.length_cons] at h
      rw [List.all_cons, e, Bool.true_and]
      exact filt_len (by omega)
    | false =>
      rw [List.filter_cons_of_neg (by rw [e]; exact Bool.false_ne_true), List.length_cons] at h
      omega
theorem filt_all {α : Type} {p : α → Bool} {l : List α} (h : l.all p = true) : l.filter p = l := List.filter_eq_self.mpr (List.all_eq_true.mp h)
def notAZ (c : Nat) : Bool := !(decide (97 ≤ c) && decide (c ≤ 122))
theorem one_eq0 (x : Nat) : decide ((⟨#[x]⟩ : Str) = "0") = decide (x = 48) := by
  by_cases h : x = 48
  · subst h
    decide +kernel
  · rw [decide_eq_false h]
    refine decide_eq_false fun e => h ?_
    have e1 : (⟨#[x]⟩ : Str) = ⟨#[48]⟩ := e
    have e2 := congrArg (fun z : Str => z.cps.toList) e1
    simpa using e2
theorem letter_iff (c : Nat) : decide (c ∈ letters.cps.toList) = (decide (97 ≤ c) && decide (c ≤ 122)) := by
  have h1 : ∀ k ∈ letters.cps.toList, 97 ≤ k ∧ k ≤ 122 := by decide +kernel
  have h2 : ∀ k : Fin 26, 97 + k.val ∈ letters.cps.toList := by decide +kernel
  by_cases h : 97 ≤ c ∧ c ≤ 122
  · have := h2 ⟨c - 97, by omega⟩
    rw [show 97 + (⟨c - 97, by omega⟩ : Fin 26).val = c by show 97 + (c - 97) = c; omega] at this
    rw [decide_eq_true this, decide_eq_true h.1, decide_eq_true h.2]
    rfl
  · rw [decide_eq_false fun hm => h (h1 c hm)]
    by_cases h3 : 97 ≤ c
    · rw [decide_eq_false (fun h4 : c ≤ 122 => h ⟨h3, h4⟩), Bool.and_false]
    · rw [decide_eq_false h3, Bool.false_and]
theorem all_az (l : List Nat) : (l.map fun c => decide (c ∈ letters.cps.toList)).all id = decide (l.filter notAZ = []) := by
  induction l with
  | nil => rfl
  | cons c l ih =>
    rw [List.map_cons, List.all_cons, ih, letter_iff]
    cases h : notAZ c with
    | true =>
      rw [List.filter_cons_of_pos h, show (decide (97 ≤ c) && decide (c ≤ 122)) = false by
        unfold notAZ at h
        generalize (decide (97 ≤ c) && decide (c ≤ 122)) = b at h ⊢
        cases b
        · rfl
        · cases h]
      rfl
    | false =>
      rw [List.filter_cons_of_neg (by rw [h]; exact Bool.false_ne_true), show (decide (97 ≤ c) && decide (c ≤ 122)) = true by
        unfold notAZ at h
        generalize (decide (97 ≤ c) && decide (c ≤ 122)) = b at h ⊢
        cases b
        · cases h
        · rfl]
      rfl
section
variable {P : Program} {w : World} {K : PySem.W.Frag} {mg : Str → Option Value} {base : Heap}
theorem ok__law_is_number {f : Addr} {fd : FuncData} (F : Fun K "_law_is_number" "_law_is_number" s__law_is_number f fd) (n_len : mg "len" = none) : FnOk P w K mg base CX0 1 f fd ["_law_word"] spLNum := by
  refine F.ok sc__law_is_number (fun vs H Q E h => ?_) (fun cdv A outer s H vs Q E hr h => ?_)
  · obtain ⟨B, z, rfl, _⟩ := h
    rfl
  · obtain ⟨B, z, rfl, ex, hz, k⟩ := h
    have S := Ok.start0 ex
    refine with_al (P := P) (w := w) (K := K) hr (fun al => ?_)
    refine ⟨_, (pss_cons (ps_setLc (i := 1) (own := [("_law_sign", 2)]) al.calm sc__law_is_number.nd rfl rfl (sw_true rfl rfl rfl (by decide +kernel)) (pi_str (pv 0)) (blkOk_by (own := [("_law_sign", 2)]) (N := ["_law_word", "_law_good", "_law_sign"]) (sc := (defScope s__law_is_number)) (by decide +kernel)) (fun _ _ _ _ _ => (pg_name (i := 2) sc__law_is_number.nd rfl (by first | exact Or.inl rfl | exact Or.inr rfl))) (fun _ _ _ _ _ => pts_one (pt_chain (opU al) (opU al) pe_str (pv 2) pe_str)) (fun _ _ _ _ _ => (pv 2))) (pss_one (ps_ret (pe_and (pe_chain (opU al) (opU al) pe_int (pe_callB (callU al) (by rfl) n_len b_len (pa_cons (pv 0) pa_nil)) pe_int) (pe_and (pe_cmpR (opU al) (pe_callB (callU al) (by rfl) n_len b_len (pa_cons (pv 1) pa_nil)) (pe_callB (callU al) (by rfl) n_len b_len (pa_cons (pv 0) pa_nil)) (nomark _)) (pe_one (pe_or (pe_cmpR (opU al) (pv 0) pe_str (nomark _)) (pe_one (pe_cmpR (opU al) (pe_ix (ixU al) (pv 0) pe_int (fun _ _ => rfl)) pe_str (nomark _)))))))))), ?_⟩
    have hll : z.cps.toList.length = z.length := Array.length_toList
    repeat tb_start
    refine lcD src_str S (fun i acc B' L' => L' = [] ∧ acc = ((z.cps.toList.take i).filter isDig).map (fun c => V.str ⟨#[c]⟩) ∧ i ≤ 3500) ⟨rfl, rfl, by omega⟩ (fun _ _ _ _ _ _ _ => True.intro) ?_ ?_
    · rintro i c x acc B0 B1 L D H1 hc ⟨rfl, rfl, hi⟩ e S1 rfl
      have hi' : i < z.cps.toList.length := (List.getElem?_eq_some_iff.mp hc).1
      repeat tb_start
      refine ⟨rfl, ?_⟩
      repeat tb_start
      refine v_leS (c := 48) ?_
      have hnext : ((z.cps.toList.take (i + 1)).filter isDig) = ((z.cps.toList.take i).filter isDig) ++ (if isDig c = true then [c] else []) := by
        rw [List.take_add_one, hc, List.filter_append]
        cases hd : isDig c <;> simp [hd]
      have hfl := List.length_filter_le isDig (z.cps.toList.take i)
      rw [List.length_take] at hfl
      repeat tb_start
      refine ifd (fun d1 => ?_) (fun d1 => ?_)
      · repeat tb_start
        refine v_leS (d := 57) ?_
        repeat tb_start
        refine ifd (fun d2 => ?_) (fun d2 => ?_)
        · have hd : isDig c = true := by
            unfold isDig
            rw [decide_eq_true d1, decide_eq_true d2]
            rfl
          rw [if_pos hd] at hnext
          repeat tb_start
          refine Acc.mk S1 (by rw [sizeLine_eq, List.length_map]; omega) ⟨rfl, ?_, by omega⟩
          rw [hnext, List.map_append]
          rfl
        · have hd : isDig c = false := by
            unfold isDig
            rw [decide_eq_false d2, Bool.and_false]
          rw [hd, if_neg Bool.false_ne_true, List.append_nil] at hnext
          refine Skp.mk S1 ⟨rfl, ?_, by omega⟩
          rw [hnext]
      · have hd : isDig c = false := by
          unfold isDig
          rw [decide_eq_false d1, Bool.false_and]
        rw [hd, if_neg Bool.false_ne_true, List.append_nil] at hnext
        repeat tb_start
        refine Skp.mk S1 ⟨rfl, ?_, by omega⟩
        rw [hnext]
    · rintro acc B1 L D H1 ⟨rfl, rfl, hi⟩ S1
      rw [List.take_length] at S1
      have no : ∀ {b : Bool}, isNum z = b → Q (.bl b) H1 := fun e => e ▸ k _ _ S1.drop
      repeat tb_start
      refine ifd (fun c1 => ?_) (fun c1 => ?_)
      · repeat tb_start
        refine ifd (fun c2 => ?_) (fun c2 => ?_)
        · repeat tb_start
          cases hd : z.cps.toList.all isDig
          · refine ifdF (fun hh => ?_) ?_
            · rw [List.length_map] at hh
              have := filt_len (p := isDig) (l := z.cps.toList) (by omega)
              rw [hd] at this
              cases this
            · exact no (by unfold isNum; rw [hd, Bool.false_and, Bool.and_false, Bool.and_false])
          · refine ifdT (by rw [List.length_map, filt_all hd]; omega) ?_
            have hc : atI z.cps.toList 0 = some (z.cps.toList.getD 0 0) := by
              refine atI_nat (j := 0) ?_
              rw [List.getD_eq_getElem?_getD, List.getElem?_eq_getElem (by omega)]
              rfl
            have en : isNum z = (decide (z = "0") || decide (z.cps.toList.getD 0 0 ≠ 48)) := by
              unfold isNum
              rw [hd, decide_eq_true c1, decide_eq_true c2, Bool.true_and, Bool.true_and, Bool.true_and]
            repeat tb_start
            refine ifd (fun e0 => ?_) (fun e0 => ?_)
            · exact no (by rw [en, decide_eq_true e0, Bool.true_or])
            · repeat tb_start
              refine v_ixS (by rw [sizeLine_eq]; omega) hc ?_
              repeat tb_start
              have e1 : isNum z = !decide ((⟨#[z.cps.toList.getD 0 0]⟩ : Str) = "0") := by
                rw [en, decide_eq_false e0, Bool.false_or, one_eq0, ← decide_not]
              exact no e1
        · repeat tb_start
          exact no (by unfold isNum; rw [decide_eq_false c2, Bool.false_and, Bool.and_false])
      · repeat tb_start
        exact no (by unfold isNum; rw [decide_eq_false c1, Bool.false_and])
theorem ok__law_is_name {f : Addr} {fd : FuncData} (F : Fun K "_law_is_name" "_law_is_name" s__law_is_name f fd) (n_len : mg "len" = none) : FnOk P w K mg base CX0 1 f fd ["_law_word"] spLName := by
  refine F.ok sc__law_is_name (fun vs H Q E h => ?_) (fun cdv A outer s H vs Q E hr h => ?_)
  · obtain ⟨B, z, rfl, _⟩ := h
    rfl
  · obtain ⟨B, z, rfl, ex, hz, k⟩ := h
    have S := Ok.start0 ex
    refine with_al (P := P) (w := w) (K := K) hr (fun al => ?_)
    refine ⟨_, (pss_one (ps_ret (pe_and (pe_chain (opU al) (opU al) pe_int (pe_callB (callU al) (by rfl) n_len b_len (pa_cons (pv 0) pa_nil)) pe_int) (pe_one (pe_cmpR (opU al) (pe_lc (own := [("_law_sign", 1)]) al.calm sc__law_is_name.nd (pi_str (pv 0)) (blkOk_by (own := [("_law_sign", 1)]) (N := ["_law_word", "_law_sign"]) (sc := (defScope s__law_is_name)) (by decide +kernel)) (fun _ _ _ _ _ => (pg_name (i := 1) sc__law_is_name.nd rfl (by first | exact Or.inl rfl | exact Or.inr rfl))) (fun _ _ _ _ _ => pts_one (pt_not (pt_chain (opU al) (opU al) pe_str (pv 1) pe_str))) (fun _ _ _ _ _ => (pv 1))) (pe_lst pa_nil) (nomark _)))))), ?_⟩
    have hll : z.cps.toList.length = z.length := Array.length_toList
    repeat tb_start
    refine ifd (fun c1 => ?_) (fun c1 => ?_)
    · repeat tb_start
      refine ifd (fun c2 => ?_) (fun c2 => ?_)
      · repeat tb_start
        refine lcD src_str S (fun i acc B' L' => L' = [] ∧ acc = ((z.cps.toList.take i).filter notAZ).map (fun c => V.str ⟨#[c]⟩) ∧ i ≤ 3500) ⟨rfl, rfl, by omega⟩ (fun _ _ _ _ _ _ _ => True.intro) ?_ ?_
        · rintro i c x acc B0 B1 L D H1 hc ⟨rfl, rfl, hi⟩ e S1 rfl
          have hi' : i < z.cps.toList.length := (List.getElem?_eq_some_iff.mp hc).1
          have hfl := List.length_filter_le (notAZ) (z.cps.toList.take i)
          rw [List.length_take] at hfl
          have hnext : ((z.cps.toList.take (i + 1)).filter notAZ) = ((z.cps.toList.take i).filter notAZ) ++ (if notAZ c = true then [c] else []) := by
            rw [List.take_add_one, hc, List.filter_append]
            cases hd : notAZ c <;> simp [hd]
          repeat tb_start
          refine ⟨rfl, ?_⟩
          repeat tb_start
          refine v_leS (c := 97) ?_
          repeat tb_start
          have yes : notAZ c = true → Acc ⟨B, H, []⟩ (fun acc B' L' => L' = [] ∧ acc = ((z.cps.toList.take (i + 1)).filter notAZ).map (fun c => V.str ⟨#[c]⟩) ∧ i + 1 ≤ 3500) D (.str ⟨#[c]⟩) H1 := fun hd => by
            rw [if_pos hd] at hnext
            refine Acc.mk S1 (by rw [sizeLine_eq, List.length_map]; omega) ⟨rfl, ?_, by omega⟩
            rw [hnext, List.map_append]
            rfl
          refine ifd (fun d1 => ?_) (fun d1 => ?_)
          · repeat tb_start
            refine v_leS (d := 122) ?_
            repeat tb_start
            refine ifnd (fun d2 => ?_) (fun d2 => ?_)
            · rw [show notAZ c = false by unfold notAZ; rw [decide_eq_true d1, decide_eq_true d2]; rfl, if_neg Bool.false_ne_true, List.append_nil] at hnext
              repeat tb_start
              refine Skp.mk S1 ⟨rfl, ?_, by omega⟩
              rw [hnext]
            · repeat tb_start
              exact yes (by unfold notAZ; rw [decide_eq_false d2, Bool.and_false]; rfl)
          · repeat tb_start
            exact yes (by unfold notAZ; rw [decide_eq_false d1, Bool.false_and]; rfl)
        · rintro acc B1 L D H1 ⟨rfl, rfl, hi⟩ S1
          rw [List.take_length] at S1
          repeat tb_start
          refine new_lst S1 (by decide) fun D2 H2 S2 => ?_
          have en : isNameM z = decide ((z.cps.toList.filter notAZ) = []) := by
            unfold isNameM
            rw [decide_eq_true c1, decide_eq_true c2, Bool.true_and, Bool.true_and]
            exact all_az z.cps.toList
          have q := k _ _ S2.drop.drop
          rw [en] at q
          cases hf : z.cps.toList.filter notAZ with
          | nil =>
            rw [hf] at q S2
            refine v_eqLen (S2.sqMem (.tail _ (.head _))) (S2.sqMem (.head _)) (.inr ⟨rfl, rfl⟩) ?_
            exact q
          | cons y ys =>
            rw [hf] at q S2
            refine v_eqLen (S2.sqMem (.tail _ (.head _))) (S2.sqMem (.head _)) (.inl (by simp)) ?_
            exact q
      · repeat tb_start
        have q := k _ _ S
        rw [show isNameM z = false by unfold isNameM; rw [decide_eq_false c2, Bool.false_and, Bool.and_false]] at q
        exact q
    · repeat tb_start
      have q := k _ _ S
      rw [show isNameM z = false by unfold isNameM; rw [decide_eq_false c1, Bool.false_and]] at q
      exact q
end
end LW

namespace LW
open PySem PySem.Spec PyProof.Rows L2 WK PM
abbrev encL (r : PRow) : PyData := .list [.str r.name, .list (r.needs.map encNeed), .list (r.steps.map encStep), .int r.lot, .int r.lead]
/-- what the reader holds -/
def RdI (K : PySem.W.Frag) (CR p dx a : Addr) (B : Hp) (L : Led) : RdS → Prop
  | none => L = [(a, .lst []), (p, .ins CR dx [("rows", .ref a)])]
  | some (qs, r) => ∃ c n s acc xs ys, L = rdL CR p dx a c n s acc r.name r.lot r.lead xs ys ∧ DpAll K B acc (qs.map encL) ∧ DpAll K B xs (r.needs.map encNeed) ∧ DpAll K B ys (r.steps.map encStep)
theorem RdI.up {K : PySem.W.Frag} {CR p dx a : Addr} {B B' : Hp} {L : Led} (e : Ex B B') : ∀ {s : RdS}, RdI K CR p dx a B L s → RdI K CR p dx a B' L s
  | none, h => h
  | some (qs, r), ⟨c, n, s, acc, xs, ys, h, h1, h2, h3⟩ => ⟨c, n, s, acc, xs, ys, h, h1.up e, h2.up e, h3.up e⟩
/-- at the end all is data -/
theorem RdI.end {K : PySem.W.Frag} {CR p dx a : Addr} {F : Ent} {B H : Hp} {L : Led} : ∀ {s : RdS}, RdI K CR p dx a B L s → Ok F B L H → ∃ B', Ex B B' ∧ Ok F B' [(p, .ins CR dx [("rows", .ref a)])] H ∧ Dp K B' (.ref a) (.list ((rdRows s).map encL))
  | none, h, S => by
    subst h
    exact S.toData (ds := []) .nil
  | some (qs, r), ⟨c, n, s, acc, xs, ys, h, h1, h2, h3⟩, S => by
    subst h
    obtain ⟨B1, e1, S1, d1⟩ := S.toData h2
    obtain ⟨B2, e2, S2, d2⟩ := S1.toData (h3.up e1)
    obtain ⟨B3, e3, S3, d3⟩ := S2.toData (ds := [.str r.name, .list (r.needs.map encNeed), .list (r.steps.map encStep), .int r.lot, .int r.lead]) (.cons (.str _) (.cons (d1.up e2) (.cons d2 (.cons (.int _) (.cons (.int _) .nil)))))
    obtain ⟨B4, e4, S4, d4⟩ := S3.toData ((h1.up (e1.trans (e2.trans e3))).append (.cons d3 .nil))
    refine ⟨B4, e1.trans (e2.trans (e3.trans e4)), S4, ?_⟩
    rw [show rdRows (some (qs, r)) = qs ++ [r] from rfl, List.map_append]
    exact d4
theorem r_glstRow {K : PySem.W.Frag} {F : Ent} {B H : Hp} {L : Led} {σ : L2.St} {QG : L2.St → Hp → Prop} {gs : TGs} {v : V} {r : PRow} (S : Ok F B L H) (h : Dp K B v (encL r)) (k : ∀ v2 v3, Dp K B v2 (.list (r.needs.map encNeed)) → Dp K B v3 (.list (r.steps.map encStep)) → gs [.str r.name, v2, v3, .int r.lot, .int r.lead] σ H QG) : gLst K 5 gs v σ H QG :=
  r_glstD S h rfl fun vs ha => by
    obtain ⟨v1, _, rfl, h1, ha⟩ := ha.cons_inv
    obtain ⟨v2, _, rfl, h2, ha⟩ := ha.cons_inv
    obtain ⟨v3, _, rfl, h3, ha⟩ := ha.cons_inv
    obtain ⟨v4, _, rfl, h4, ha⟩ := ha.cons_inv
    obtain ⟨v5, _, rfl, h5, ha⟩ := ha.cons_inv
    obtain rfl := ha.nil_inv
    obtain rfl := h1.str_inv
    obtain rfl := h4.int_inv
    obtain rfl := h5.int_inv
    exact k v2 v3 h2 h3
/-- a row that can't stand there -/
def spTakeX (K : PySem.W.Frag) (CR : Addr) : Sp := fun vs H Q _ => ∃ (B : Hp) (p dx a b : Addr) (L : Led) (st : RdS) (ws : List Str), vs = [.ref p, .ref b] ∧ Ok ⟨B, H, L.map (·.1)⟩ B L H ∧ RdI K CR p dx a B L st ∧ SqL K H b (ws.map V.str) ∧ ws ≠ [] ∧ ws.length ≤ 3501 ∧ (∀ x ∈ ws, x.length ≤ 3500) ∧
  take1 st ws = none ∧ ∀ B' H', Ok ⟨B, H, L.map (·.1)⟩ B' L H' → Q (.bl false) H'
section
variable {P : Program} {w : World} {K : PySem.W.Frag} {mg : Str → Option Value} {base : Heap}
theorem ok_take_no {f CR : Addr} {fd : FuncData} (F : Fun K "does_take" "Reader.does_take" s_Reader_does_take f fd) (G_is_name : FnG P w K mg base 1 "is_name" ["word"] spIsName) (G_number_inX : FnG P w K mg base 1 "number_in" ["word"] spNumX) (clR : Cls K CR) (nRows : NoAttr K CR "rows")
    (n_len : mg "len" = none) (c_PART : GlS mg "PART" "part") (c_NEED : GlS mg "NEED" "need") (c_STEP : GlS mg "STEP" "step") : FnOk P w K mg base CX0 2 f fd ["self", "words"] (spTakeX K CR) := by
  refine F.ok sc_Reader_does_take (fun vs H Q E h => ?_) (fun cdv A outer s H vs Q E hr h => ?_)
  · obtain ⟨B, p, dx, a, b, L, st, ws, rfl, _⟩ := h
    rfl
  · obtain ⟨B, p, dx, a, b, L, st, ws, rfl, S, RI, hb, hne, hwl, hw, hno, k⟩ := h
    refine with_al (P := P) (w := w) (K := K) hr (fun al => ?_)
    refine ⟨_, (pss_cons (ps_asg (pv 1) (pg_star (n := 2) (i := 1) K (pgs_cons (pg_name (i := 2) sc_Reader_does_take.nd rfl (by first | exact Or.inl rfl | exact Or.inr rfl)) (pgs_star (pg_name (i := 3) sc_Reader_does_take.nd rfl (by first | exact Or.inl rfl | exact Or.inr rfl)) pgs_nil)) (by decide))) (pss_cons (ps_if (PW.pt (pw_and (pt_cmpR (opU al) (pv 2) (pe_gs c_PART rfl) (nomark _)) (pw_and1 (pt_cmpR (opU al) (pe_callB (callU al) (by rfl) n_len b_len (pa_cons (pv 3) pa_nil)) pe_int (nomark _))))) (pss_cons (ps_par (i := 4) (j := 5) al.calm sc_Reader_does_take.nd rfl rfl (by decide) rfl rfl (pa_cons (pe_fn G_number_inX (hr.mono (by first | decide | omega)) rfl (pa_cons (pe_ix (ixU al) (pv 3) pe_int (fun _ _ => rfl)) pa_nil)) (pa_cons (pe_fn G_number_inX (hr.mono (by first | decide | omega)) rfl (pa_cons (pe_ix (ixU al) (pv 3) pe_int (fun _ _ => rfl)) pa_nil)) pa_nil)) (by rfl)) (pss_cons (ps_if (PW.pt (pw_or (pt_not (pt_val (pe_fn G_is_name (hr.mono (by first | decide | omega)) rfl (pa_cons (pe_ix (ixU al) (pv 3) pe_int (fun _ _ => rfl)) pa_nil)))) (pw_or (pt_cmpR (opU al) (pv 4) pe_int (nomark _)) (pw_or1 (pt_cmpR (opU al) (pv 5) pe_int (nomark _)))))) (pss_one (ps_ret pe_bl)) pss_nil) (pss_cons (ps_expr (pe_bmU K PySem.F.plainAttrs_list PySem.F.slot_list_append PySem.F.type_list_append (metU al) (pe_fldU K (pv 0) rfl) (pa_cons (pe_lst (pa_cons (pe_ix (ixU al) (pv 3) pe_int (fun _ _ => rfl)) (pa_cons (pe_lst pa_nil) (pa_cons (pe_lst pa_nil) (pa_cons (pv 4) (pa_cons (pv 5) pa_nil)))))) pa_nil))) (pss_one (ps_ret pe_bl))))) pss_nil) (pss_cons (ps_if (PW.pt (pw_or (pt_cmpR (opU al) (pe_fldU K (pv 0) rfl) (pe_lst pa_nil) (nomark _)) (pw_or1 (pt_cmpR (opU al) (pe_callB (callU al) (by rfl) n_len b_len (pa_cons (pv 3) pa_nil)) pe_int (nomark _))))) (pss_one (ps_ret pe_bl)) pss_nil) (pss_cons (ps_asg (pe_fn G_number_inX (hr.mono (by first | decide | omega)) rfl (pa_cons (pe_ix (ixU al) (pv 3) pe_int (fun _ _ => rfl)) pa_nil)) (pg_name (i := 6) sc_Reader_does_take.nd rfl (by first | exact Or.inl rfl | exact Or.inr rfl))) (pss_cons (ps_if (PW.pt (pw_and (pt_cmpR (opU al) (pv 2) (pe_gs c_NEED rfl) (nomark _)) (pw_and (pt_val (pe_fn G_is_name (hr.mono (by first | decide | omega)) rfl (pa_cons (pe_ix (ixU al) (pv 3) pe_int (fun _ _ => rfl)) pa_nil))) (pw_and (pt_cmpR (opU al) (pv 6) pe_int (nomark _)) (pw_and1 (pt_cmpR (opU al) (pe_ix (ixU al) (pe_ix (ixU al) (pe_fldU K (pv 0) rfl) (pe_un un_neg pe_int) (fun _ _ => rfl)) pe_int (fun _ _ => rfl)) (pe_lst pa_nil) (nomark _))))))) (pss_cons (ps_expr (pe_bmU K PySem.F.plainAttrs_list PySem.F.slot_list_append PySem.F.type_list_append (metU al) (pe_ix (ixU al) (pe_ix (ixU al) (pe_fldU K (pv 0) rfl) (pe_un un_neg pe_int) (fun _ _ => rfl)) pe_int (fun _ _ => rfl)) (pa_cons (pe_tup (pa_cons (pe_ix (ixU al) (pv 3) pe_int (fun _ _ => rfl)) (pa_cons (pv 6) pa_nil))) pa_nil))) (pss_one (ps_ret pe_bl))) pss_nil) (pss_cons (ps_if (PW.pt (pw_and (pt_cmpR (opU al) (pv 2) (pe_gs c_STEP rfl) (nomark _)) (pw_and (pt_cmpR (opU al) (pe_fn G_number_inX (hr.mono (by first | decide | omega)) rfl (pa_cons (pe_ix (ixU al) (pv 3) pe_int (fun _ _ => rfl)) pa_nil)) pe_int (nomark _)) (pw_and1 (pt_cmpR (opU al) (pv 6) pe_int (nomark _)))))) (pss_cons (ps_expr (pe_bmU K PySem.F.plainAttrs_list PySem.F.slot_list_append PySem.F.type_list_append (metU al) (pe_ix (ixU al) (pe_ix (ixU al) (pe_fldU K (pv 0) rfl) (pe_un un_neg pe_int) (fun _ _ => rfl)) pe_int (fun _ _ => rfl)) (pa_cons (pe_tup (pa_cons (pe_fn G_number_inX (hr.mono (by first | decide | omega)) rfl (pa_cons (pe_ix (ixU al) (pv 3) pe_int (fun _ _ => rfl)) pa_nil)) (pa_cons (pv 6) pa_nil))) pa_nil))) (pss_one (ps_ret pe_bl))) pss_nil) (pss_one (ps_ret pe_bl)))))))), ?_⟩
    cases ws with
    | nil => exact absurd rfl hne
    | cons w0 rest =>
    have hrl : rest.length ≤ 3500 := by rw [List.length_cons] at hwl; omega
    have hrest : ∀ x ∈ rest, x.length ≤ 3500 := fun x hx => hw x (.tail _ hx)
    have hpL : (p, HO.ins CR dx [("rows", V.ref a)]) ∈ L := by
      cases st with
      | none => cases RI; exact .tail _ (.head _)
      | some z =>
        obtain ⟨qs, r⟩ := z
        obtain ⟨c, n, s, acc, xs, ys, rfl, _⟩ := RI
        exact .tail _ (.tail _ (.tail _ (.tail _ (.head _))))
    generalize hF : (⟨B, H, L.map (·.1)⟩ : Ent) = F0 at S k
    repeat tb_start
    refine r_gstar S hb (by rw [List.length_map, List.length_cons]; omega) (by rw [List.length_map]; omega) fun q H1 S1 => ?_
    have e0 : (((w0 :: rest).map V.str).drop 1).take (((w0 :: rest).map V.str).length + 1 - 2) = rest.map V.str := by
      rw [List.map_cons, List.drop_one, List.tail_cons, List.length_cons]
      exact List.take_of_length_le (by omega)
    have e1 : (((w0 :: rest).map V.str).drop 1).drop (((w0 :: rest).map V.str).length + 1 - 2) = [] := by
      rw [List.map_cons, List.drop_one, List.tail_cons, List.length_cons]
      exact List.drop_of_length_le (by omega)
    rw [e0] at S1
    rw [e1]
    show gCons _ _ [.str w0, .ref q] _ _ _
    repeat tb_start
    refine ifd (fun hw0 => ?_) (fun hw0 => ?_)
    · subst hw0
      repeat tb_start
      refine ifd (fun hl3 => ?_) (fun hl3 => ?_)
      · rw [List.length_map] at hl3
        obtain ⟨z, x, y, rfl⟩ : ∃ z x y, rest = [z, x, y] := by
          match rest, (by omega : rest.length = 3) with
          | [z, x, y], _ => exact ⟨z, x, y, rfl⟩
        have hz := hrest z (.head _)
        have hx := hrest x (.tail _ (.head _))
        have hy := hrest y (.tail _ (.tail _ (.head _)))
        replace S1 : Ok F0 B ((q, .lst [.str z, .str x, .str y]) :: L) H1 := S1
        have hnp := no_part hno
        repeat tb_start
        refine ⟨x, rfl, hx, ?_⟩
        repeat tb_start
        refine ⟨y, rfl, hy, ?_⟩
        repeat tb_start
        refine ⟨B, z, rfl, S1.ex, hz, fun B2 H2 T2 => ?_⟩
        have S2 := S1.callP T2
        have kk := k _ _ S2.drop
        cases c1 : isNameM z
        · repeat tb_start
          exact kk
        repeat tb_start
        cases c2 : isNum x
        · rw [numM_no c2]
          repeat tb_start
          exact kk
        have h2 := (numM_yes c2).1
        repeat tb_start
        cases c3 : isNum y
        · rw [numM_no c3]
          repeat tb_start
          exact kk
        exact absurd ⟨c1, c2, c3⟩ hnp
      · repeat tb_start
        have hp1 := S1.mem (List.mem_cons_of_mem _ hpL)
        repeat tb_start
        refine new_lst S1 (by decide) fun q2 H2 S2 => ?_
        cases st with
        | none =>
          cases RI
          refine v_eqLen (S2.sqMem (.tail _ (.tail _ (.head _)))) (S2.sqMem (.head _)) (.inr ⟨rfl, rfl⟩) ?_
          repeat tb_start
          exact k _ _ S2.drop.drop
        | some stv =>
          obtain ⟨qs, r⟩ := stv
          obtain ⟨c, n, s', acc, xs, ys, rfl, d1, d2, d3⟩ := RI
          refine v_eqLen (S2.sqMem (.tail _ (.tail _ (.tail _ (.tail _ (.tail _ (.head _))))))) (S2.sqMem (.head _)) (.inl (by simp)) ?_
          have S3 := S2.drop
          clear S2 S1
          repeat tb_start
          refine ifnd (fun c2 => ?_) (fun c2 => ?_)
          case refine_2 =>
            repeat tb_start
            exact k _ _ S3.drop
          rw [List.length_map] at c2
          obtain ⟨x, y, rfl⟩ : ∃ x y, rest = [x, y] := by
            match rest, c2 with
            | [x, y], _ => exact ⟨x, y, rfl⟩
          have hx := hrest x (.head _)
          have hy := hrest y (.tail _ (.head _))
          replace S3 : Ok F0 B ((q, .lst [.str x, .str y]) :: rdL CR p dx a c n s' acc r.name r.lot r.lead xs ys) H2 := S3
          repeat tb_start
          refine ⟨y, rfl, hy, ?_⟩
          repeat tb_start
          refine ifdF (by decide +kernel) ?_
          repeat tb_start
          refine ifdF (by decide +kernel) ?_
          repeat tb_start
          exact k _ _ S3.drop
    · repeat tb_start
      have hp1 := S1.mem (List.mem_cons_of_mem _ hpL)
      repeat tb_start
      refine new_lst S1 (by decide) fun q2 H2 S2 => ?_
      cases st with
      | none =>
        cases RI
        refine v_eqLen (S2.sqMem (.tail _ (.tail _ (.head _)))) (S2.sqMem (.head _)) (.inr ⟨rfl, rfl⟩) ?_
        repeat tb_start
        exact k _ _ S2.drop.drop
      | some stv =>
        obtain ⟨qs, r⟩ := stv
        obtain ⟨c, n, s', acc, xs, ys, rfl, d1, d2, d3⟩ := RI
        refine v_eqLen (S2.sqMem (.tail _ (.tail _ (.tail _ (.tail _ (.tail _ (.head _))))))) (S2.sqMem (.head _)) (.inl (by simp)) ?_
        have S3 := S2.drop
        clear S2 S1
        repeat tb_start
        refine ifnd (fun c2 => ?_) (fun c2 => ?_)
        case refine_2 =>
          repeat tb_start
          exact k _ _ S3.drop
        rw [List.length_map] at c2
        obtain ⟨x, y, rfl⟩ : ∃ x y, rest = [x, y] := by
          match rest, c2 with
          | [x, y], _ => exact ⟨x, y, rfl⟩
        have hx := hrest x (.head _)
        have hy := hrest y (.tail _ (.head _))
        replace S3 : Ok F0 B ((q, .lst [.str x, .str y]) :: rdL CR p dx a c n s' acc r.name r.lot r.lead xs ys) H2 := S3
        repeat tb_start
        refine ⟨y, rfl, hy, ?_⟩
        repeat tb_start
        refine ifd (fun hnd => ?_) (fun hnd => ?_)
        · subst hnd
          repeat tb_start
          refine ⟨B, x, rfl, S3.ex, hx, fun B4 H4 T4 => ?_⟩
          have S4 := S3.callP T4
          have kk := k _ _ S4.drop
          cases c1 : isNameM x
          · repeat tb_start
            refine ifdF (by decide +kernel) ?_
            repeat tb_start
            exact kk
          repeat tb_start
          cases c3 : isNum y
          · rw [numM_no c3]
            repeat tb_start
            refine ifdF (by decide +kernel) ?_
            repeat tb_start
            exact kk
          have hy0 := (numM_yes c3).1
          repeat tb_start
          refine v_ixL (S4.sqMem (.tail _ (.tail _ (.tail _ (.tail _ (.head _)))))) (atI_last _ _) ?_
          repeat tb_start
          refine new_lst S4 (by decide) fun q3 H5 S5 => ?_
          have hys : ys ≠ [] := fun e => by
            subst e
            have h := d3.length
            have h2 := no_need hno c1 c3
            rw [List.length_map] at h
            exact h2 (List.length_eq_zero_iff.mp h.symm)
          cases ys with
          | nil => exact absurd rfl hys
          | cons y0 ys =>
            refine v_eqLen (S5.sqMem (.tail _ (.tail _ (.tail _ (.head _))))) (S5.sqMem (.head _)) (.inl (by simp)) ?_
            repeat tb_start
            refine ifdF (by decide +kernel) ?_
            repeat tb_start
            exact k _ _ S5.drop.drop
        · repeat tb_start
          refine ifd (fun hst => ?_) (fun hst => ?_)
          · subst hst
            repeat tb_start
            refine ⟨x, rfl, hx, ?_⟩
            have hns := no_step hno
            cases c1 : isNum x
            · rw [numM_no c1]
              repeat tb_start
              exact k _ _ S3.drop
            have hx0 := (numM_yes c1).1
            repeat tb_start
            cases c3 : isNum y
            · rw [numM_no c3]
              repeat tb_start
              exact k _ _ S3.drop
            exact absurd ⟨c1, c3⟩ hns
          · repeat tb_start
            exact k _ _ S3.drop
end
end LW

namespace LW
open PySem PySem.Spec PyProof.Rows L2 WK PM
abbrev s_BadText___init__ : Stmt := inClass (topS 9) 0
theorem sc_BadText___init__ : FnScope ["self", "row"] ["self", "row"] (defScope s_BadText___init__) := ⟨rfl, rfl, rfl, by decide +kernel, rfl, by decide +kernel, by decide +kernel⟩
abbrev s_read : Stmt := topS 31
theorem sc_read : FnScope ["text", "reader", "row", "line", "found", "name", "needs", "steps", "lot", "lead"] ["text"] (defScope s_read) := ⟨rfl, rfl, rfl, by decide +kernel, rfl, by decide +kernel, by decide +kernel⟩
abbrev spTake (K : PySem.W.Frag) (CR : Addr) : Sp := spOr (spTakeP K CR) (spOr (spTakeN K CR) (spTakeS K CR))
abbrev spTakeB (K : PySem.W.Frag) (CR : Addr) : Sp := spOr (spTake K CR) (spTakeX K CR)
def spPInitB (K : PySem.W.Frag) (X : Exs) (CP : Addr) : Sp := fun vs H Q E => spPInit K CP vs H Q E ∨ spPInitR K X CP vs H Q E
/-- any text read -/
def spReadX (K : PySem.W.Frag) (X : Exs) : Sp := fun vs H Q E => ∃ (B : Hp) (z : Str), vs = [.str z] ∧ Ex B H ∧ z.length ≤ 3000 ∧ (∀ k : Nat, FailAt (wordsM z) k → RefN X B H (.text k) E) ∧
  (∀ st, after (wordsM z) = some st → (GoodBook (rdRows st) → ∀ D acc B' H', Ex B B' → Ok ⟨B, H, []⟩ B' [(D, .lst acc)] H' → DpAll K B' acc ((rdRows st).map encRow) → Q (.ref D) H') ∧ (∀ at_ r, BadAt (rdRows st) at_ r → RefN X B H (.parts at_) E))
section
variable {P : Program} {w : World} {K : PySem.W.Frag} {mg : Str → Option Value} {base : Heap} {X : Exs}
theorem oki_BadText {f CB CKE : Addr} {mc : Value} {fd : FuncData} (F : Fun K "__init__" "BadText.__init__" s_BadText___init__ f fd) (m_KE : mg "KinError" = some (.ref CKE)) (EB : ExBase K CKE mc) (T : OexC K CB) (nf : PySem.W.findIn K (.ref CB) "row" = some none) : FnOk P w K mg base CX0 1 f fd ["self", "row"] (spExI CB "row") := by
  refine F.ok sc_BadText___init__ (fun vs H Q E h => ?_) (fun cdv A outer s H vs Q E hr h => ?_)
  · obtain ⟨a, y, rfl, _⟩ := h
    rfl
  · obtain ⟨a, y, rfl, ha, kk⟩ := h
    refine ⟨_, pss_cons (ps_expr (pe_baseinit EB m_KE rfl (pa_cons (pv 0) (pa_cons (pv 1) pa_nil)))) (pss_one (ps_ost (pv 0) (pv 1))), ?_⟩
    exact ⟨_, rfl, _, rfl, a, CB, [y], rfl, (by show 1 ≤ 1000; decide), T, ha, _, rfl, _, rfl, a, CB, rfl, T, nf, .inl ⟨ha, fun dx h1 h2 => kk dx h1 h2⟩⟩
theorem ok_readX {f CP CR : Addr} {fd : FuncData} (F : Fun K "read" "read" s_read f fd) (GX_Parts : MkGX P w K mg base 3 CP "Parts" ["self", "told"] (spPInitB K X CP)) (G_Reader : MkG P w K mg base 1 CR "Reader" ["self"] (spRInit CR))
    (GB_does_take : MtG P w K mg base 2 CR "does_take" ["self", "words"] (spTakeB K CR)) (X_BadText : ExK P w K mg base "BadText" X.text "row") (clR : Cls K CR) (nRows : NoAttr K CR "rows") (n_enumerate : mg "enumerate" = none) (n_tuple : mg "tuple" = none) : FnOk P w K mg base (L2.CX P w) 5 f fd ["text"] (spReadX K X) := by
  refine F.okX sc_read (fun vs H Q E h => ?_) (fun cdv A outer s H vs Q E hr h => ?_)
  · obtain ⟨B, z, rfl, _⟩ := h
    rfl
  · obtain ⟨B, z, rfl, ex, hz, hfail, hall⟩ := h
    have S := Ok.start0 ex
    obtain ⟨tl, tlen⟩ := lines_facts hz
    have hwl : (wordsM z).length = (linesM z).length := List.length_map _
    refine with_al (P := P) (w := w) (K := K) hr (fun al => ?_)
    refine ⟨_, (pss_cons (ps_asg (pe_mk0 G_Reader (hr.mono (by first | decide | omega)) rfl) (pg_name (i := 1) sc_read.nd rfl (by first | exact Or.inl rfl | exact Or.inr rfl))) (pss_cons (ps_for (passes_of rfl) rfl (pi_enumV (by rfl) n_enumerate (pa_cons (pe_cut (pe_ifExp (pt_cmpR (opU al) (pv 0) pe_str (nomark _)) (pe_bmU K PySem.F.plainAttrs_str PySem.F.slot_str_split PySem.F.type_str_split (metU al) (pv 0) (pa_cons pe_str pa_nil)) (pe_lst pa_nil))) pa_nil)) (pg_tupU (n := 2) K (pgs_cons (pg_name (i := 2) sc_read.nd rfl (by first | exact Or.inl rfl | exact Or.inr rfl)) (pgs_cons (pg_name (i := 3) sc_read.nd rfl (by first | exact Or.inl rfl | exact Or.inr rfl)) pgs_nil))) (pss_one (ps_if (pt_not (pt_val (pe_mth GB_does_take (hr.mono (by first | decide | omega)) (pv 1) (pa_cons (pe_bmU K PySem.F.plainAttrs_str PySem.F.slot_str_split PySem.F.type_str_split (metU al) (pv 3) (pa_cons pe_str pa_nil)) pa_nil)))) (pss_one (ps_rzK X_BadText (takes_of rfl rfl rfl rfl) (hr.mono (by first | decide | omega)) rfl rfl (pv 2))) pss_nil))) (pss_cons (ps_setLc (i := 4) (own := [("name", 5), ("needs", 6), ("steps", 7), ("lot", 8), ("lead", 9)]) al.calm sc_read.nd rfl rfl (sw_true rfl rfl rfl (by decide +kernel)) (pi_val al (pe_fldU K (pv 1) rfl)) (blkOk_by (own := [("name", 5), ("needs", 6), ("steps", 7), ("lot", 8), ("lead", 9)]) (N := ["text", "reader", "row", "line", "found", "name", "needs", "steps", "lot", "lead"]) (sc := (defScope s_read)) (by decide +kernel)) (fun _ _ _ _ _ => (pg_lstU (n := 5) K (pgs_cons (pg_name (i := 5) sc_read.nd rfl (by first | exact Or.inl rfl | exact Or.inr rfl)) (pgs_cons (pg_name (i := 6) sc_read.nd rfl (by first | exact Or.inl rfl | exact Or.inr rfl)) (pgs_cons (pg_name (i := 7) sc_read.nd rfl (by first | exact Or.inl rfl | exact Or.inr rfl)) (pgs_cons (pg_name (i := 8) sc_read.nd rfl (by first | exact Or.inl rfl | exact Or.inr rfl)) (pgs_cons (pg_name (i := 9) sc_read.nd rfl (by first | exact Or.inl rfl | exact Or.inr rfl)) pgs_nil))))))) (fun _ _ _ _ _ => pts_nil) (fun _ _ _ _ _ => (pe_tup (pa_cons (pv 5) (pa_cons (pe_callTy (callU al) (by rfl) n_tuple b_tuple (pa_cons (pv 6) pa_nil)) (pa_cons (pe_callTy (callU al) (by rfl) n_tuple b_tuple (pa_cons (pv 7) pa_nil)) (pa_cons (pv 8) (pa_cons (pv 9) pa_nil)))))))) (pss_cons (ps_expr (pe_mkX GX_Parts (hr.mono (by first | decide | omega)) (passes_call (takes_of rfl rfl rfl rfl) (fun _ _ _ _ hh => hh)) rfl (pa_cons (pv 4) pa_nil))) (pss_one (ps_ret (pv 4))))))), ?_⟩
    repeat tb_start
    refine mkQ S fun p dx H1 S1 => ?_
    refine ⟨B, p, dx, rfl, S1.sub (L1 := [_]), fun a H2 T2 => retQ ?_⟩
    have S2 : Ok ⟨B, H, []⟩ B [(a, .lst []), (p, .ins CR dx [("rows", .ref a)])] H2 := S1.call (L1 := [_]) (L2 := []) T2
    clear T2 S1
    repeat tb_start
    refine cutE (fun v H' => ∃ B', Ex B B' ∧ Ok ⟨B, H, []⟩ B' [(a, .lst []), (p, .ins CR dx [("rows", .ref a)])] H' ∧ Dp K B' v (.list ((linesM z).map PyData.str))) ?_ ?_
    · repeat tb_start
      refine ifnd (fun hne => ?_) (fun hne => ?_)
      · repeat tb_start
        refine new_lst S2 (by decide) fun q H3 S3 => ?_
        obtain ⟨B4, e4, S4, d4⟩ := S3.toData (K := K) (ds := []) .nil
        have e0 : linesM z = [] := if_pos hne
        rw [e0]
        exact ⟨B4, e4, S4, d4⟩
      · repeat tb_start
        refine v_splitS S2 rfl (by rw [sizeLine_eq]; omega) fun q H3 S3 => ?_
        obtain ⟨B4, e4, S4, d4⟩ := S3.toData (K := K) (dpStrs _)
        have e0 : linesM z = Txt.split z nlS := if_neg hne
        rw [e0]
        exact ⟨B4, e4, S4, d4⟩
    rintro v H3 ⟨B3, e3, S3, hv⟩
    repeat tb_start
    refine enuD (as := linesM z) (enc := PyData.str) S3 (.inl hv) fun J src => ?_
    refine forDS src S3 (fun i σ B1 L1 => (∃ yy2 yy3 yy4 yy5 yy6 yy7 yy8 yy9, σ = [some (.str z), some (.ref p), yy2, yy3, yy4, yy5, yy6, yy7, yy8, yy9]) ∧ ∃ st, RdI K CR p dx a B1 L1 st ∧ after ((wordsM z).take i) = some st)
      (fun i σ B1 L1 e _ => e) ?_ ?_ ?_
    · exact ⟨⟨_, _, _, _, _, _, _, _, rfl⟩, none, rfl, rfl⟩
    · rintro i y xv σ B4 B5 L5 H5 hget ⟨⟨_, _, _, _, _, _, _, _, rfl⟩, st, RI0, hst⟩ e4 e5 S5 ⟨T, u, rfl, hT, hu⟩
      obtain ⟨hr1, hr2⟩ := zipIdx_at hget
      have RI := RI0.up e5
      clear RI0
      obtain rfl := hu.str_inv
      have hi : i < (linesM z).length := (List.getElem?_eq_some_iff.mp hr1).1
      have hl20 := tlen _ (List.mem_of_getElem? hr1)
      have hsz := (after_ok i (wordsM z) (by omega) st hst).size
      have hws := wordsM_get hr1
      obtain ⟨ly, ti⟩ := y
      dsimp only at *
      obtain ⟨w1, w2, w3⟩ := split_words hl20
      refine r_gtupB S5 hT rfl ?_
      repeat tb_start
      have hpL : (p, HO.ins CR dx [("rows", V.ref a)]) ∈ L5 := by
        cases st with
        | none => cases RI; exact .tail _ (.head _)
        | some z =>
          obtain ⟨qs, r⟩ := z
          obtain ⟨c, n, s, acc, xs, ys, rfl, _⟩ := RI
          exact .tail _ (.tail _ (.tail _ (.tail _ (.head _))))
      refine mthQ (S5.mem hpL) rfl ?_
      repeat tb_start
      refine v_splitS S5 rfl (by rw [sizeLine_eq]; omega) fun b H6 S6 => ?_
      repeat tb_start
      cases htk : take1 st (Txt.split ly spc) with
      | none =>
        have S7 : Ok ⟨B, H, []⟩ B5 (L5 ++ [(b, .lst ((Txt.split ly spc).map V.str))]) H6 := S6.perm (List.perm_append_comm (l₁ := [(b, HO.lst ((Txt.split ly spc).map V.str))]))
        refine .inr ⟨B5, p, dx, a, b, L5, st, Txt.split ly spc, rfl, S7.sub, RI, S6.sqMem (.head _), w1, by omega, fun x hx => by have := w3 x hx; omega, htk, fun B8 H8 T8 => ?_⟩
        have S8 := (S7.call T8).thin (List.nil_sublist _)
        have e8 := T8.ex0
        repeat tb_start
        intro d hd
        have hs : ((ti : Nat) : Int) = ((i : Nat) : Int) := by omega
        exact hfail i ⟨st, _, hws, hst, htk⟩ _ _ _ _ ((e3.trans (e4.trans (e5.trans e8))).trans (S8.exB hd)) (S8.newB hd) ⟨rfl, d, rfl, by rw [hs]; exact upd_same⟩
      | some st' =>
      obtain ⟨t, htg, htak, rfl⟩ := take1_some htk
      obtain ⟨hwd, hok⟩ := tagM_words htg
      have hsok := takes_SOk htak
      have hafter : after ((wordsM z).take (i + 1)) = some (rd1 st t) := by
        rw [after_take hws, hst]
        exact htk
      rw [hwd] at S6
      cases t with
      | part z' pi pj =>
        obtain ⟨k1, k2, k3⟩ := hok
        obtain ⟨B7, acc, e7, S7, dacc, lacc⟩ : ∃ (B7 : Hp) (acc : List V), Ex B5 B7 ∧ Ok ⟨B, H, []⟩ B7 [(a, .lst acc), (b, .lst ((["part", z', numS pi, numS pj] : List Str).map V.str)), (p, .ins CR dx [("rows", .ref a)])] H6 ∧ DpAll K B7 acc ((rdRows st).map encL) ∧ acc.length ≤ 3500 := by
          cases st with
          | none =>
            cases RI
            exact ⟨B5, [], Ex.refl _, S6.pick [1, 0, 2] (by decide), .nil, by simp⟩
          | some w =>
            obtain ⟨qs, r⟩ := w
            obtain ⟨c, n, s, acc, xs, ys, rfl, d1, d2, d3⟩ := RI
            have S7 : Ok ⟨B, H, []⟩ B5 [(n, .lst xs), (s, .lst ys), (c, .lst [.str r.name, .ref n, .ref s, .int r.lot, .int r.lead]), (a, .lst (acc ++ [.ref c])), (b, .lst ((["part", z', numS pi, numS pj] : List Str).map V.str)), (p, .ins CR dx [("rows", .ref a)])] H6 := S6.pick [1, 2, 3, 4, 0, 5] (by decide)
            obtain ⟨B8, e8, S8, f1⟩ := S7.toData d2
            obtain ⟨B9, e9, S9, f2⟩ := S8.toData (d3.up e8)
            obtain ⟨B10, e10, S10, f3⟩ := S9.toData (ds := [.str r.name, .list (r.needs.map encNeed), .list (r.steps.map encStep), .int r.lot, .int r.lead]) (.cons (.str _) (.cons (f1.up e9) (.cons f2 (.cons (.int _) (.cons (.int _) .nil)))))
            refine ⟨B10, _, e8.trans (e9.trans e10), S10, ?_, ?_⟩
            · rw [show rdRows (some (qs, r)) = qs ++ [r] from rfl, List.map_append]
              exact (d1.up (e8.trans (e9.trans e10))).append (.cons f3 .nil)
            · have := d1.length
              have h2 : qs.length + r.needs.length + r.steps.length + 1 ≤ i := hsz
              rw [List.length_map] at this
              rw [List.length_append]
              simp
              omega
        refine .inl (.inl ⟨B7, p, dx, a, b, acc, z', pi, pj, rfl, S7.sub (L1 := [_]), S7.mem (.tail _ (.tail _ (.head _))), S7.sqMem (.tail _ (.head _)), k1, k2, k3, lacc, fun c n s H8 T8 => ?_⟩)
        have S8 := (S7.call (L1 := [_]) (L2 := [_, _]) T8).pick [2, 1, 0, 3, 5] (by decide)
        repeat tb_start
        refine NxE.mk' S8 (by nest_room) ?_
        refine ⟨⟨_, _, _, _, _, _, _, _, rfl⟩, ?_⟩
        cases st with
        | none => exact ⟨rd1 none (.part z' pi pj), ⟨c, n, s, acc, [], [], rfl, dacc, .nil, .nil⟩, hafter⟩
        | some w => exact ⟨rd1 (some w) (.part z' pi pj), ⟨c, n, s, acc, [], [], rfl, dacc, .nil, .nil⟩, hafter⟩
      | need z' pi =>
        obtain ⟨k1, k2⟩ := hok
        obtain ⟨qs, r, rfl, hrs⟩ := hsok
        obtain ⟨c, n, s, acc, xs, ys, rfl, d1, d2, d3⟩ := RI
        have hy : ys = [] := by
          rw [hrs] at d3
          exact d3.nil_inv
        subst hy
        have S7 : Ok ⟨B, H, []⟩ B5 (rdL CR p dx a c n s acc r.name r.lot r.lead xs [] ++ [(b, .lst ((["need", z', numS pi] : List Str).map V.str))]) H6 := S6.pick [1, 2, 3, 4, 5, 0] (by decide)
        have h2 : qs.length + r.needs.length + r.steps.length + 1 ≤ i := hsz
        have h3 := d2.length
        rw [List.length_map] at h3
        refine .inl (.inr (.inl ⟨B5, p, dx, a, c, n, s, b, acc, xs, r.name, z', r.lot, r.lead, pi, rfl, S7.sub, S7.sqMem (.tail _ (.tail _ (.tail _ (.tail _ (.tail _ (.head _)))))), k1, k2, by omega, fun t B8 H8 e8 ht T8 => ?_⟩))
        have S8 := (S7.call T8).pick [0, 1, 2, 3, 4] (by decide)
        repeat tb_start
        refine NxE.mk' S8 (by nest_room) ?_
        refine ⟨⟨_, _, _, _, _, _, _, _, rfl⟩, rd1 (some (qs, r)) (.need z' pi), ⟨c, n, s, acc, xs ++ [t], [], rfl, d1.up e8, ?_, d3.up e8⟩, hafter⟩
        show DpAll K B8 (xs ++ [t]) ((r.needs ++ [(z', pi)]).map encNeed)
        rw [List.map_append]
        exact (d2.up e8).append (.cons ht .nil)
      | step pi pj =>
        obtain ⟨k1, k2⟩ := hok
        obtain ⟨qs, r, rfl⟩ := hsok
        obtain ⟨c, n, s, acc, xs, ys, rfl, d1, d2, d3⟩ := RI
        have S7 : Ok ⟨B, H, []⟩ B5 (rdL CR p dx a c n s acc r.name r.lot r.lead xs ys ++ [(b, .lst ((["step", numS pi, numS pj] : List Str).map V.str))]) H6 := S6.pick [1, 2, 3, 4, 5, 0] (by decide)
        have h2 : qs.length + r.needs.length + r.steps.length + 1 ≤ i := hsz
        have h3 := d3.length
        rw [List.length_map] at h3
        refine .inl (.inr (.inr ⟨B5, p, dx, a, c, n, s, b, acc, xs, ys, r.name, r.lot, r.lead, pi, pj, rfl, S7.sub, S7.sqMem (.tail _ (.tail _ (.tail _ (.tail _ (.tail _ (.head _)))))), k1, k2, by omega, fun t B8 H8 e8 ht T8 => ?_⟩))
        have S8 := (S7.call T8).pick [0, 1, 2, 3, 4] (by decide)
        repeat tb_start
        refine NxE.mk' S8 (by nest_room) ?_
        refine ⟨⟨_, _, _, _, _, _, _, _, rfl⟩, rd1 (some (qs, r)) (.step pi pj), ⟨c, n, s, acc, xs, ys ++ [t], rfl, d1.up e8, d2.up e8, ?_⟩, hafter⟩
        show DpAll K B8 (ys ++ [t]) ((r.steps ++ [(pi, pj)]).map encStep)
        rw [List.map_append]
        exact (d3.up e8).append (.cons ht .nil)
    · rintro σ B4 L4 H4 ⟨⟨_, _, _, _, _, _, _, _, rfl⟩, st, RI, hst⟩ e4 S4
      rw [List.length_zipIdx, ← hwl, List.take_length] at hst
      have hok := after_ok (wordsM z).length (wordsM z) (Nat.le_refl _) st (by rw [List.take_length]; exact hst)
      obtain ⟨hgood, hbad⟩ := hall st hst
      obtain ⟨B5, e5, S5, d5⟩ := RI.end S4
      clear S4 RI
      have hsm := rd_small hok (by omega)
      have hrl : (rdRows st).length ≤ 3500 := by
        have h1 := hok.size
        cases st with
        | none => exact Nat.zero_le _
        | some w =>
          obtain ⟨qs, r⟩ := w
          have h1 : qs.length + r.needs.length + r.steps.length + 1 ≤ (wordsM z).length := h1
          show (qs ++ [r]).length ≤ 3500
          rw [List.length_append, List.length_singleton]
          omega
      have hor := book_or hsm (rdRows st).length (Nat.le_refl _)
      rw [List.take_length] at hor
      generalize rdRows st = rs at *
      repeat tb_start
      refine lcPureL S5 d5 (fun _ => true) encRow (by omega) ?_ ?_
      · intro r v B6 D acc H6 C Cs hr0 e6 S6 hv6 kC kS
        refine r_glstRow S6 hv6 fun v2 v3 h2 h3 => ?_
        repeat tb_start
        refine ⟨rfl, ?_⟩
        repeat tb_start
        refine v_tupD S6 h2 fun p2 B7 H7 e7 S7 h7 => ?_
        repeat tb_start
        refine v_tupD S7 (h3.up e7) fun p3 B8 H8 e8 S8 h8 => ?_
        repeat tb_start
        refine new_tupD S8 (.cons (.str _) (.cons (h7.up e8) (.cons h8 (.cons (.int _) (.cons (.int _) .nil))))) (by simp) fun p4 B9 H9 e9 S9 h9 => ?_
        exact kC _ _ _ rfl (by nest_room) S9 h9
      · intro D acc B6 H6 e6 S6 hacc
        rw [filter_tt] at hacc
        repeat tb_start
        refine r_mkX ?_
        repeat tb_start
        refine mkXQ S6 fun x dx2 H7 S7 => ?_
        have S8 : Ok ⟨B, H, []⟩ B6 [(D, .lst acc), (x, .ins CP dx2 [])] H7 := S7.pick [1, 0] (by decide)
        have e8 := S8.exF
        rcases hor with G | ⟨at_, r, BA⟩
        · refine Or.inl ⟨_, x, dx2, .ref D, rs, rfl, S8.freeze.sub (L1 := [_]), .inl (.lst (SqL.of upd_same) (hacc.up e8)), G, fun a2 l2 rkv lkv B9 H9 e9 RK LK T9 => ⟨rfl, ?_⟩⟩
          have S9 := ((S8.pick [1, 0] (by decide)).call (L1 := [(x, .ins CP dx2 [])]) (L2 := [(D, .lst acc)]) (Ok.rebase e8 T9)).pick [3] (by decide)
          repeat tb_start
          exact hgood G D acc B6 H9 (by nest_room) S9 hacc
        · refine Or.inr ⟨_, x, dx2, .ref D, rs, at_, r, rfl, S8.freeze.sub (L1 := [_]), .inl (.lst (SqL.of upd_same) (hacc.up e8)), BA, fun c d B9 H9 e9 T9 hz => ?_⟩
          have S9 := S8.freeze.call (L1 := [(x, .ins CP dx2 [])]) (L2 := []) T9
          exact hbad at_ r BA c d B9 H9 (by nest_room) S9 hz
end
end LW

namespace LW
open PySem PySem.Spec PyProof.Rows L2 WK PM
/-! the law's own first row that can't stand there -/
abbrev s__law_first : Stmt := topS 41
theorem sc__law_first : FnScope ["_law_text", "_law_is_begun", "_law_is_stepped", "_law_rows", "_law_k", "_law_words", "_law_numbers", "_law_word", "_law_good"] ["_law_text"] (defScope s__law_first) := ⟨rfl, rfl, rfl, by decide +kernel, rfl, by decide +kernel, by decide +kernel⟩
def spFirst : Sp := fun vs H Q _ => ∃ (B : Hp) (z : Str), vs = [.str z] ∧ Ex B H ∧ z.length ≤ 3000 ∧ (∀ k : Nat, FailAt (wordsM z) k → ∀ B' H', Ok ⟨B, H, []⟩ B' [] H' → Q (.int k) H') ∧
  (∀ st, after (wordsM z) = some st → ∀ B' H', Ok ⟨B, H, []⟩ B' [] H' → Q (.int (-1)) H')
theorem bools_inv {K : PySem.W.Frag} {B : Hp} {α : Type} {f : α → Bool} : ∀ {l : List α} {vs : List V}, DpAll K B vs (l.map fun x => PyData.bool (f x)) → vs = l.map fun x => V.bl (f x)
  | [], _, h => by cases h; rfl
  | a :: l, _, h => by
    cases h with
    | cons h1 h2 => rw [List.map_cons, ← bools_inv h2, Dp.bl_inv (x := f a) h1]
section
variable {P : Program} {w : World} {K : PySem.W.Frag} {mg : Str → Option Value} {base : Heap}
theorem ok__law_first {f : Addr} {fd : FuncData} (F : Fun K "_law_first" "_law_first" s__law_first f fd) (G__law_is_number : FnG P w K mg base 1 "_law_is_number" ["_law_word"] spLNum) (G__law_is_name : FnG P w K mg base 1 "_law_is_name" ["_law_word"] spLName)
    (n_len : mg "len" = none) (n_range : mg "range" = none) : FnOk P w K mg base CX0 2 f fd ["_law_text"] spFirst := by
  refine F.ok sc__law_first (fun vs H Q E h => ?_) (fun cdv A outer s H vs Q E hr h => ?_)
  · obtain ⟨B, z, rfl, _⟩ := h
    rfl
  · obtain ⟨B, z, rfl, ex, hz, hfail, hall⟩ := h
    have S := Ok.start0 ex
    obtain ⟨tl, tlen⟩ := lines_facts hz
    have hwl : (wordsM z).length = (linesM z).length := List.length_map _
    refine with_al (P := P) (w := w) (K := K) hr (fun al => ?_)
    refine ⟨_, (pss_cons (ps_asg (pe_tup (pa_cons pe_bl (pa_cons pe_bl pa_nil))) (pg_tupU (n := 2) K (pgs_cons (pg_name (i := 1) sc__law_first.nd rfl (by first | exact Or.inl rfl | exact Or.inr rfl)) (pgs_cons (pg_name (i := 2) sc__law_first.nd rfl (by first | exact Or.inl rfl | exact Or.inr rfl)) pgs_nil)))) (pss_cons (ps_asg (pe_cut (pe_ifExp (pt_cmpR (opU al) (pv 0) pe_str (nomark _)) (pe_bmU K PySem.F.plainAttrs_str PySem.F.slot_str_split PySem.F.type_str_split (metU al) (pv 0) (pa_cons pe_str pa_nil)) (pe_lst pa_nil))) (pg_name (i := 3) sc__law_first.nd rfl (by first | exact Or.inl rfl | exact Or.inr rfl))) (pss_cons (ps_for PassesOwn.never rfl (pi_range1 (by rfl) n_range (pa_cons (pe_callB (callU al) (by rfl) n_len b_len (pa_cons (pv 3) pa_nil)) pa_nil)) (pg_name (i := 4) sc__law_first.nd rfl (by first | exact Or.inl rfl | exact Or.inr rfl)) (pss_cons (ps_asg (pe_bmU K PySem.F.plainAttrs_str PySem.F.slot_str_split PySem.F.type_str_split (metU al) (pe_ix (ixU al) (pv 3) (pv 4) (fun _ _ => rfl)) (pa_cons pe_str pa_nil)) (pg_name (i := 5) sc__law_first.nd rfl (by first | exact Or.inl rfl | exact Or.inr rfl))) (pss_cons (ps_setLc (i := 6) (own := [("_law_word", 7)]) al.calm sc__law_first.nd rfl rfl (sw_true rfl rfl rfl (by decide +kernel)) (pi_val al (pe_slice (slU al) (pv 5) (po_some pe_int) po_none)) (blkOk_by (own := [("_law_word", 7)]) (N := ["_law_text", "_law_is_begun", "_law_is_stepped", "_law_rows", "_law_k", "_law_words", "_law_numbers", "_law_word", "_law_good"]) (sc := (defScope s__law_first)) (by decide +kernel)) (fun _ _ _ _ _ => (pg_name (i := 7) sc__law_first.nd rfl (by first | exact Or.inl rfl | exact Or.inr rfl))) (fun _ _ _ _ _ => pts_nil) (fun _ _ _ _ _ => (pe_fn G__law_is_number (hr.mono (by first | decide | omega)) rfl (pa_cons (pv 7) pa_nil)))) (pss_cons (ps_asg pe_bl (pg_name (i := 8) sc__law_first.nd rfl (by first | exact Or.inl rfl | exact Or.inr rfl))) (pss_cons (ps_cut (ps_if (PW.pt (pw_and (pt_cmpR (opU al) (pe_ix (ixU al) (pv 5) pe_int (fun _ _ => rfl)) pe_str (nomark _)) (pw_and1 (pt_cmpR (opU al) (pe_callB (callU al) (by rfl) n_len b_len (pa_cons (pv 5) pa_nil)) pe_int (nomark _))))) (pss_cons (ps_asg (pe_and (pe_fn G__law_is_name (hr.mono (by first | decide | omega)) rfl (pa_cons (pe_ix (ixU al) (pv 5) pe_int (fun _ _ => rfl)) pa_nil)) (pe_and (pe_ix (ixU al) (pv 6) pe_int (fun _ _ => rfl)) (pe_one (pe_ix (ixU al) (pv 6) pe_int (fun _ _ => rfl))))) (pg_name (i := 8) sc__law_first.nd rfl (by first | exact Or.inl rfl | exact Or.inr rfl))) (pss_one (ps_asg (pe_tup (pa_cons pe_bl (pa_cons pe_bl pa_nil))) (pg_tupU (n := 2) K (pgs_cons (pg_name (i := 1) sc__law_first.nd rfl (by first | exact Or.inl rfl | exact Or.inr rfl)) (pgs_cons (pg_name (i := 2) sc__law_first.nd rfl (by first | exact Or.inl rfl | exact Or.inr rfl)) pgs_nil)))))) (pss_one (ps_if (PW.pt (pw_and (pt_cmpR (opU al) (pe_ix (ixU al) (pv 5) pe_int (fun _ _ => rfl)) pe_str (nomark _)) (pw_and1 (pt_cmpR (opU al) (pe_callB (callU al) (by rfl) n_len b_len (pa_cons (pv 5) pa_nil)) pe_int (nomark _))))) (pss_one (ps_asg (pe_and (pv 1) (pe_and (pe_not (pv 2)) (pe_and (pe_fn G__law_is_name (hr.mono (by first | decide | omega)) rfl (pa_cons (pe_ix (ixU al) (pv 5) pe_int (fun _ _ => rfl)) pa_nil)) (pe_one (pe_ix (ixU al) (pv 6) pe_int (fun _ _ => rfl)))))) (pg_name (i := 8) sc__law_first.nd rfl (by first | exact Or.inl rfl | exact Or.inr rfl)))) (pss_one (ps_if (PW.pt (pw_and (pt_cmpR (opU al) (pe_ix (ixU al) (pv 5) pe_int (fun _ _ => rfl)) pe_str (nomark _)) (pw_and1 (pt_cmpR (opU al) (pe_callB (callU al) (by rfl) n_len b_len (pa_cons (pv 5) pa_nil)) pe_int (nomark _))))) (pss_one (ps_par (i := 8) (j := 2) al.calm sc__law_first.nd rfl rfl (by decide) rfl rfl (pa_cons (pe_and (pv 1) (pe_and (pe_ix (ixU al) (pv 6) pe_int (fun _ _ => rfl)) (pe_one (pe_ix (ixU al) (pv 6) pe_int (fun _ _ => rfl))))) (pa_cons pe_bl pa_nil)) (by rfl))) pss_nil)))))) (pss_one (ps_if (pt_not (pt_val (pv 8))) (pss_one (ps_ret (pv 4))) pss_nil))))))) (pss_one (ps_ret (pe_un un_neg pe_int)))))), ?_⟩
    repeat tb_start
    refine new_tup S (by show 2 ≤ sizeLine; decide) fun t0 B0 H0 e0 ht0 S0 => ?_
    refine r_gtupB S0 ht0 rfl ?_
    repeat tb_start
    refine cutE (fun v H' => ∃ B', Ex B0 B' ∧ Ok ⟨B, H, []⟩ B' [] H' ∧ Dp K B' v (.list ((linesM z).map PyData.str))) ?_ ?_
    · repeat tb_start
      refine ifnd (fun hne => ?_) (fun hne => ?_)
      · repeat tb_start
        refine new_lst S0 (by decide) fun q H3 S3 => ?_
        obtain ⟨B4, e4, S4, d4⟩ := S3.toData (K := K) (ds := []) .nil
        have e0 : linesM z = [] := if_pos hne
        rw [e0]
        exact ⟨B4, e4, S4, d4⟩
      · repeat tb_start
        refine v_splitS S0 rfl (by rw [sizeLine_eq]; omega) fun q H3 S3 => ?_
        obtain ⟨B4, e4, S4, d4⟩ := S3.toData (K := K) (dpStrs _)
        have e0 : linesM z = Txt.split z nlS := if_neg hne
        rw [e0]
        exact ⟨B4, e4, S4, d4⟩
    rintro v H3 ⟨B3, e3, S3, hv⟩
    obtain ⟨ra, rxs, rfl, hrq, hrda⟩ := Dp.lst_inv hv
    have hrl : rxs.length = (linesM z).length := by rw [hrda.length, List.length_map]
    repeat tb_start
    rw [List.length_map]
    refine rngQ (by omega) (by omega) ?_
    refine forDS src_range S3 (fun i σ B1 L1 => L1 = [] ∧ ∃ st, (∃ yy4 yy5 yy6 yy7 yy8, σ = [some (.str z), some (.bl (begun28 st)), some (.bl (stepped28 st)), some (.ref ra), yy4, yy5, yy6, yy7, yy8]) ∧ after ((wordsM z).take i) = some st) (fun _ _ _ _ _ _ => True.intro) ?_ ?_ ?_
    · exact ⟨rfl, none, ⟨_, _, _, _, _, rfl⟩, rfl⟩
    · rintro i y xv σ B4 B5 L5 H5 hget ⟨rfl, st, ⟨_, _, _, _, _, rfl⟩, hst⟩ e4 e5 S5 rfl
      have hyi : i < (linesM z).length ∧ y = i := by
        obtain ⟨h1, h2⟩ := List.getElem?_eq_some_iff.mp hget
        rw [List.getElem_range] at h2
        rw [List.length_range] at h1
        exact ⟨by omega, h2.symm⟩
      obtain ⟨hi, rfl⟩ := hyi
      have hr1 := List.getElem?_eq_getElem hi
      generalize (linesM z)[y] = ly at hr1
      have hl20 := tlen _ (List.mem_of_getElem? hr1)
      have hws := wordsM_get hr1
      obtain ⟨w1, w2, w3⟩ := split_words hl20
      obtain ⟨u, hu1, hu2⟩ := hrda.get' (d := .str ly) (i := y) (by rw [List.getElem?_map, hr1]; rfl)
      obtain rfl := hu2.str_inv
      repeat tb_start
      rw [Int.zero_add]
      refine v_ixL (S5.sqB ((e4.trans e5).sqL hrq)) (atI_nat hu1) ?_
      repeat tb_start
      refine v_splitS S5 rfl (by rw [sizeLine_eq]; omega) fun b H6 S6 => ?_
      generalize Txt.split ly spc = ws at S6 hws w1 w2 w3
      cases ws with
      | nil => exact absurd rfl w1
      | cons w0 rest =>
      have hrestl : rest.length ≤ 3000 := by rw [List.length_cons] at w2; omega
      have hrest : ∀ x ∈ rest, x.length ≤ 3500 := fun x hx => by have := w3 x (.tail _ hx); omega
      have e7 := S6.exF
      have S7 := S6.freeze
      have hbq7 : SqL K (upd B5 b (.lst ((w0 :: rest).map V.str))) b ((w0 :: rest).map V.str) := SqL.of upd_same
      generalize upd B5 b (.lst ((w0 :: rest).map V.str)) = B7 at e7 S7 hbq7
      have hb7 : Dp K B7 (.ref b) (.list ((w0 :: rest).map PyData.str)) := .lst hbq7 (dpStrs _)
      repeat tb_start
      refine v_slFrom (j := 1) S7 hb7 fun r8 B8 H8 e8 S8 h8 => ?_
      replace h8 : Dp K B8 r8 (.list (rest.map PyData.str)) := h8
      repeat tb_start
      refine lcPureL S8 h8 (fun _ => true) (fun x => .bool (isNum x)) (by omega) ?_ ?_
      · intro x xv B9 D9 acc9 H9 C Cs hx e9 S9 hxv kC kS
        obtain rfl := hxv.str_inv
        repeat tb_start
        refine ⟨rfl, ?_⟩
        repeat tb_start
        refine ⟨B9, x, rfl, S9.ex, hrest x hx, fun B10 H10 T10 => ?_⟩
        exact kC _ _ _ rfl T10.ex0 (S9.callP T10) (.bl _)
      intro D9 acc9 B9 H9 e9 S9 hacc9
      rw [filter_tt] at hacc9
      obtain rfl := bools_inv hacc9
      have e10 := S9.exF
      have S10 := S9.freeze
      have hnq10 : SqL K (upd B9 D9 (.lst (rest.map fun x => V.bl (isNum x)))) D9 (rest.map fun x => V.bl (isNum x)) := SqL.of upd_same
      generalize upd B9 D9 (.lst (rest.map fun x => V.bl (isNum x))) = B10 at e10 S10 hnq10
      have hbq10 := (e8.trans (e9.trans e10)).sqL hbq7
      have e510 : Ex B5 B10 := e7.trans (e8.trans (e9.trans e10))
      have hbH := S10.sqB hbq10
      have hnH := S10.sqB hnq10
      repeat tb_start
      refine cutS (fun σ H' => ∃ (B' : Hp) (good bg stp : Bool), (∃ yy5 yy6 yy7, σ = [some (.str z), some (.bl bg), some (.bl stp), some (.ref ra), some (.int (y : Int)), yy5, yy6, yy7, some (.bl good)]) ∧ Ex B5 B' ∧ Ok ⟨B, H, []⟩ B' [] H' ∧
        ((good = true ∧ ∃ st', take1 st (w0 :: rest) = some st' ∧ bg = begun28 st' ∧ stp = stepped28 st') ∨ (good = false ∧ take1 st (w0 :: rest) = none))) ?_ ?_
      · repeat tb_start
        refine v_ixL hbH (atI_nat (j := 0) rfl) ?_
        repeat tb_start
        refine ifd (fun hw0 => ?_) (fun hw0 => ?_)
        · subst hw0
          repeat tb_start
          refine ifd (fun hl4 => ?_) (fun hl4 => ?_)
          · repeat tb_start
            rw [List.length_map, List.length_cons] at hl4
            obtain ⟨nm, x, y, rfl⟩ : ∃ nm x y, rest = [nm, x, y] := by
              match rest, (by omega : rest.length = 3) with
              | [nm, x, y], _ => exact ⟨nm, x, y, rfl⟩
            have hnm := hrest nm (.head _)
            have hx := hrest x (.tail _ (.head _))
            have hy := hrest y (.tail _ (.tail _ (.head _)))
            replace hbH : SqL K _ b [V.str _, V.str nm, V.str x, V.str y] := hbH
            replace hnH : SqL K _ D9 [V.bl (isNum nm), V.bl (isNum x), V.bl (isNum y)] := hnH
            try (refine v_ixL hbH (atI_nat (j := 1) rfl) ?_)
            repeat tb_start
            refine ⟨B10, nm, rfl, S10.ex, hnm, fun B11 H11 T11 => ?_⟩
            have S11 := S10.callP T11
            have e11 := T11.ex0
            have hnH : SqL K _ D9 [V.bl (isNum nm), V.bl (isNum x), V.bl (isNum y)] := S11.sqB (e11.sqL hnq10)
            cases c0 : isNameM nm
            · repeat tb_start
              refine new_tup S11 (by show 2 ≤ sizeLine; decide) fun t12 B12 H12 e12 ht12 S12 => ?_
              refine r_gtupB S12 ht12 rfl ?_
              repeat tb_start
              exact ⟨B12, false, true, false, ⟨_, _, _, rfl⟩, (e510.trans e11).trans e12, S12, .inr ⟨rfl, by rw [t_part, c0]; rfl⟩⟩
            repeat tb_start
            try (refine v_ixL hnH (atI_nat (j := 1) rfl) ?_)
            repeat tb_start
            cases c1 : isNum x
            · repeat tb_start
              refine new_tup S11 (by show 2 ≤ sizeLine; decide) fun t12 B12 H12 e12 ht12 S12 => ?_
              refine r_gtupB S12 ht12 rfl ?_
              repeat tb_start
              exact ⟨B12, false, true, false, ⟨_, _, _, rfl⟩, (e510.trans e11).trans e12, S12, .inr ⟨rfl, by rw [t_part, c0, c1]; rfl⟩⟩
            repeat tb_start
            try (refine v_ixL hnH (atI_nat (j := 2) rfl) ?_)
            cases c2 : isNum y
            · repeat tb_start
              refine new_tup S11 (by show 2 ≤ sizeLine; decide) fun t12 B12 H12 e12 ht12 S12 => ?_
              refine r_gtupB S12 ht12 rfl ?_
              repeat tb_start
              exact ⟨B12, false, true, false, ⟨_, _, _, rfl⟩, (e510.trans e11).trans e12, S12, .inr ⟨rfl, by rw [t_part, c0, c1, c2]; rfl⟩⟩
            repeat tb_start
            refine new_tup S11 (by show 2 ≤ sizeLine; decide) fun t12 B12 H12 e12 ht12 S12 => ?_
            refine r_gtupB S12 ht12 rfl ?_
            repeat tb_start
            exact ⟨B12, true, true, false, ⟨_, _, _, rfl⟩, (e510.trans e11).trans e12, S12, .inl ⟨rfl, _, (by rw [t_part, c0, c1, c2]; rfl), (b_part _ _ _ _).1.symm, (b_part _ _ _ _).2.symm⟩⟩
          · repeat tb_start
            refine v_ixL hbH (atI_nat (j := 0) rfl) ?_
            repeat tb_start
            refine ifdF (by decide +kernel) ?_
            repeat tb_start
            refine v_ixL hbH (atI_nat (j := 0) rfl) ?_
            repeat tb_start
            refine ifdF (by decide +kernel) ?_
            repeat tb_start
            exact ⟨B10, false, _, _, ⟨_, _, _, rfl⟩, e510, S10, .inr ⟨rfl, t_other st (fun h => hl4 (by rw [List.length_map, List.length_cons]; omega)) (fun h => absurd h.1 (by decide +kernel)) (fun h => absurd h.1 (by decide +kernel))⟩⟩
        · repeat tb_start
          refine v_ixL hbH (atI_nat (j := 0) rfl) ?_
          repeat tb_start
          refine ifd (fun hw1 => ?_) (fun hw1 => ?_)
          · subst hw1
            repeat tb_start
            refine ifd (fun hl4 => ?_) (fun hl4 => ?_)
            · repeat tb_start
              rw [List.length_map, List.length_cons] at hl4
              obtain ⟨x, y, rfl⟩ : ∃ x y, rest = [x, y] := by
                match rest, (by omega : rest.length = 2) with
                | [x, y], _ => exact ⟨x, y, rfl⟩
              have hx := hrest x (.head _)
              have hy := hrest y (.tail _ (.head _))
              replace hbH : SqL K _ b [V.str _, V.str x, V.str y] := hbH
              replace hnH : SqL K _ D9 [V.bl (isNum x), V.bl (isNum y)] := hnH
              cases c0 : begun28 st
              · repeat tb_start
                exact ⟨B10, false, _, _, ⟨_, _, _, rfl⟩, e510, S10, .inr ⟨rfl, by rw [t_need, c0]; rfl⟩⟩
              · repeat tb_start
                cases c1 : stepped28 st
                · repeat tb_start
                  try (refine v_ixL hbH (atI_nat (j := 1) rfl) ?_)
                  repeat tb_start
                  refine ⟨B10, x, rfl, S10.ex, hx, fun B11 H11 T11 => ?_⟩
                  have S11 := S10.callP T11
                  have e11 := T11.ex0
                  have hnH : SqL K _ D9 [V.bl (isNum x), V.bl (isNum y)] := S11.sqB (e11.sqL hnq10)
                  cases c2 : isNameM x
                  · repeat tb_start
                    exact ⟨B11, false, _, _, ⟨_, _, _, rfl⟩, (e510.trans e11), S11, .inr ⟨rfl, by rw [t_need, c0, c1, c2]; rfl⟩⟩
                  repeat tb_start
                  try (refine v_ixL hnH (atI_nat (j := 1) rfl) ?_)
                  cases c3 : isNum y
                  · repeat tb_start
                    exact ⟨B11, false, _, _, ⟨_, _, _, rfl⟩, (e510.trans e11), S11, .inr ⟨rfl, by rw [t_need, c0, c1, c2, c3]; rfl⟩⟩
                  repeat tb_start
                  exact ⟨B11, true, _, _, ⟨_, _, _, rfl⟩, (e510.trans e11), S11, .inl ⟨rfl, _, (by rw [t_need, c0, c1, c2, c3]; rfl), (by rw [(b_need _ _ _).1]; exact c0.symm), (by rw [(b_need _ _ _).2]; exact c1.symm)⟩⟩
                · repeat tb_start
                  exact ⟨B10, false, _, _, ⟨_, _, _, rfl⟩, e510, S10, .inr ⟨rfl, by rw [t_need, c0, c1]; rfl⟩⟩
            · repeat tb_start
              refine v_ixL hbH (atI_nat (j := 0) rfl) ?_
              repeat tb_start
              refine ifdF (by decide +kernel) ?_
              repeat tb_start
              exact ⟨B10, false, _, _, ⟨_, _, _, rfl⟩, e510, S10, .inr ⟨rfl, t_other st (fun h => absurd h.1 (by decide +kernel)) (fun h => hl4 (by rw [List.length_map, List.length_cons]; omega)) (fun h => absurd h.1 (by decide +kernel))⟩⟩
          · repeat tb_start
            refine v_ixL hbH (atI_nat (j := 0) rfl) ?_
            repeat tb_start
            refine ifd (fun hw2 => ?_) (fun hw2 => ?_)
            · subst hw2
              repeat tb_start
              refine ifd (fun hl4 => ?_) (fun hl4 => ?_)
              · repeat tb_start
                rw [List.length_map, List.length_cons] at hl4
                obtain ⟨x, y, rfl⟩ : ∃ x y, rest = [x, y] := by
                  match rest, (by omega : rest.length = 2) with
                  | [x, y], _ => exact ⟨x, y, rfl⟩
                have hx := hrest x (.head _)
                have hy := hrest y (.tail _ (.head _))
                replace hbH : SqL K _ b [V.str _, V.str x, V.str y] := hbH
                replace hnH : SqL K _ D9 [V.bl (isNum x), V.bl (isNum y)] := hnH
                cases c0 : begun28 st
                · repeat tb_start
                  exact ⟨B10, false, _, _, ⟨_, _, _, rfl⟩, e510, S10, .inr ⟨rfl, by rw [t_step, c0]; rfl⟩⟩
                · repeat tb_start
                  try (refine v_ixL hnH (atI_nat (j := 0) rfl) ?_)
                  repeat tb_start
                  cases c1 : isNum x
                  · repeat tb_start
                    exact ⟨B10, false, _, _, ⟨_, _, _, rfl⟩, e510, S10, .inr ⟨rfl, by rw [t_step, c0, c1]; rfl⟩⟩
                  repeat tb_start
                  try (refine v_ixL hnH (atI_nat (j := 1) rfl) ?_)
                  cases c2 : isNum y
                  · repeat tb_start
                    exact ⟨B10, false, _, _, ⟨_, _, _, rfl⟩, e510, S10, .inr ⟨rfl, by rw [t_step, c0, c1, c2]; rfl⟩⟩
                  repeat tb_start
                  exact ⟨B10, true, _, _, ⟨_, _, _, rfl⟩, e510, S10, .inl ⟨rfl, _, (by rw [t_step, c0, c1, c2]; rfl), (b_step c0 _ _).1.symm, (b_step c0 _ _).2.symm⟩⟩
              · repeat tb_start
                exact ⟨B10, false, _, _, ⟨_, _, _, rfl⟩, e510, S10, .inr ⟨rfl, t_other st (fun h => absurd h.1 (by decide +kernel)) (fun h => absurd h.1 (by decide +kernel)) (fun h => hl4 (by rw [List.length_map, List.length_cons]; omega))⟩⟩
            · repeat tb_start
              exact ⟨B10, false, _, _, ⟨_, _, _, rfl⟩, e510, S10, .inr ⟨rfl, t_other st (fun h => hw0 h.1) (fun h => hw1 h.1) (fun h => hw2 h.1)⟩⟩
      · rintro σ1 H12 ⟨B12, good, bg, stp, ⟨_, _, _, rfl⟩, e12, S12, hgood⟩
        rcases hgood with ⟨rfl, st', ht, rfl, rfl⟩ | ⟨rfl, ht⟩
        · repeat tb_start
          refine NxE.mk' S12 (e4.trans (e5.trans e12)) ⟨rfl, st', ⟨_, _, _, _, _, rfl⟩, ?_⟩
          rw [after_take hws, hst]
          exact ht
        · repeat tb_start
          exact hfail y ⟨st, _, hws, hst, ht⟩ _ _ S12
    · rintro σ B4 L4 H4 ⟨rfl, st, ⟨_, _, _, _, _, rfl⟩, hst⟩ e4 S4
      repeat tb_start
      have hst2 : after (wordsM z) = some st := by
        rw [List.length_range] at hst
        rw [← hst, List.take_of_length_le (by omega)]
      exact hall st hst2 _ _ S4
    end
    end LW

namespace LW
open PySem PySem.Spec PyProof.Rows L2 WK PM
local macro_rules | `(tactic| kpr_short) => `(tactic| simp only [List.flatten_cons, List.flatten_nil, List.map_cons, List.map_nil, List.getD_cons_zero, List.getD_cons_succ, List.append_nil, List.append_assoc, List.cons_append, List.nil_append])
abbrev s_law : Stmt := topS 42
theorem sc_law : FnScope ["_law_script", "_law_h", "_law_odd", "_law_turn", "_law_rows", "_law_at", "_law_way", "_law_some", "_law_text", "_law_spot", "_law_bent", "_law_one", "_law_place", "_law_found"] ["_law_script"] (defScope s_law) := ⟨rfl, rfl, rfl, by decide +kernel, rfl, by decide +kernel, by decide +kernel⟩
def lawq : Str := "law.<locals>.<lambda>"
def spLaw (K : PySem.W.Frag) (PL : Addr) : Sp := fun vs H Q _ => ∃ (a : Addr) (ns : List Int), vs = [.ref a] ∧ SqL K H a (ns.map V.int) ∧ ns.length ≤ 63 ∧ H PL = some (.tbl #[]) ∧ ∀ H', Q (.bl true) H'
section
variable {P : Program} {w : World} {K : PySem.W.Frag} {mg : Str → Option Value} {base : Heap} {X : Exs}
theorem ok_law {f c PL : Addr} {fd : FuncData} (F : FunC K "law" "law" s_law f c fd) (TB : LamX.TabB base mg c PL) (KG : KindG K mg X) (k0 : KndF K X 0 "at") (k6 : KndF K X 6 "row") (G__law_mix : FnG P w K mg base 1 "_law_mix" ["_law_script", "_law_seed"] (spMix K)) (G__law_next : FnG P w K mg base 1 "_law_next" ["_law_h", "_law_many"] spNext)
    (G__law_parts : FnG P w K mg base 14 "_law_parts" ["_law_h", "_law_most"] (spLParts K)) (G_written : FnG P w K mg base 5 "written" ["parts"] (spWritten K)) (GX_read : FnGX P w K mg base 5 "read" ["text"] (spReadX K X)) (G__law_first : FnG P w K mg base 2 "_law_first" ["_law_text"] spFirst)
    (n_range : mg "range" = none) (n_len : mg "len" = none) : FnOk P w K mg base CX0 15 f fd ["_law_script"] (spLaw K PL) := by
  refine F.okC sc_law (fun vs H Q E h => ?_) (fun Ar outer s H vs Q E hr h => ?_)
  · obtain ⟨a, ns, rfl, _⟩ := h
    rfl
  · obtain ⟨a, ns, rfl, hq0, hlen, hPL, kend⟩ := h
    have S := Ok.startT hPL
    have hsq := sansT_sq hPL hq0
    generalize sansT H PL = B0 at S hsq
    generalize hFe : (⟨B0, H, [PL]⟩ : Ent) = F0 at S
    refine with_al (P := P) (w := w) (K := K) hr (fun al => ?_)
    have hq : (Str.ofString "law" ++ ".<locals>.") ++ "<lambda>" = lawq := by decide +kernel
    refine ⟨_, (pss_cons (ps_asg (pe_fn G__law_mix (hr.mono (by first | decide | omega)) rfl (pa_cons (pv 0) (pa_cons pe_int pa_nil))) (pg_name (i := 1) sc_law.nd rfl (by first | exact Or.inl rfl | exact Or.inr rfl))) (pss_cons (ps_asg (pe_lst (pa_cons pe_str (pa_cons pe_str (pa_cons pe_str (pa_cons pe_str (pa_cons pe_str (pa_cons pe_str (pa_cons pe_str (pa_cons pe_str pa_nil))))))))) (pg_name (i := 2) sc_law.nd rfl (by first | exact Or.inl rfl | exact Or.inr rfl))) (pss_cons (ps_asg (pe_op (opU al) (pv 2) (pe_lst (pa_cons pe_str (pa_cons pe_str (pa_cons pe_str (pa_cons pe_str (pa_cons pe_str (pa_cons pe_str (pa_cons pe_str (pa_cons pe_str (pa_cons pe_str pa_nil))))))))))) (pg_name (i := 2) sc_law.nd rfl (by first | exact Or.inl rfl | exact Or.inr rfl))) (pss_cons (ps_for PassesOwn.never rfl (pi_range1 (by rfl) n_range (pa_cons pe_int pa_nil)) (pg_name (i := 3) sc_law.nd rfl (by first | exact Or.inl rfl | exact Or.inr rfl)) (pss_cons (ps_asg (pe_bmU K PySem.F.plainAttrs_str PySem.F.slot_str_split PySem.F.type_str_split (metU al) (pe_fn G_written (hr.mono (by first | decide | omega)) rfl (pa_cons (pe_fn G__law_parts (hr.mono (by first | decide | omega)) rfl (pa_cons (pv 1) (pa_cons pe_int pa_nil))) pa_nil)) (pa_cons pe_str pa_nil)) (pg_name (i := 4) sc_law.nd rfl (by first | exact Or.inl rfl | exact Or.inr rfl))) (pss_cons (ps_par (i := 5) (j := 6) al.calm sc_law.nd rfl rfl (by decide) rfl rfl (pa_cons (pe_fn G__law_next (hr.mono (by first | decide | omega)) rfl (pa_cons (pv 1) (pa_cons (pe_callB (callU al) (by rfl) n_len b_len (pa_cons (pv 4) pa_nil)) pa_nil))) (pa_cons (pe_fn G__law_next (hr.mono (by first | decide | omega)) rfl (pa_cons (pv 1) (pa_cons pe_int pa_nil))) pa_nil)) (by rfl)) (pss_cons (ps_asg (pe_lst (pa_cons (pe_op (opU al) (pe_slice (slU al) (pv 4) po_none (po_some (pv 5))) (pe_slice (slU al) (pv 4) (po_some (pe_op (opU al) (pv 5) pe_int)) po_none)) (pa_cons (pe_op (opU al) (pe_slice (slU al) (pv 4) po_none (po_some (pe_op (opU al) (pv 5) pe_int))) (pe_slice (slU al) (pv 4) (po_some (pv 5)) po_none)) pa_nil))) (pg_name (i := 7) sc_law.nd rfl (by first | exact Or.inl rfl | exact Or.inr rfl))) (pss_cons (ps_expr (pe_bmU K PySem.F.plainAttrs_list PySem.F.slot_list_append PySem.F.type_list_append (metU al) (pv 7) (pa_cons (pe_op (opU al) (pe_op (opU al) (pe_slice (slU al) (pv 4) po_none (po_some (pv 5))) (pe_revL (pe_slice (slU al) (pv 4) (po_some (pv 5)) (po_some (pe_op (opU al) (pv 5) pe_int))))) (pe_slice (slU al) (pv 4) (po_some (pe_op (opU al) (pv 5) pe_int)) po_none)) pa_nil))) (pss_cons (ps_expr (pe_bmU K PySem.F.plainAttrs_list PySem.F.slot_list_append PySem.F.type_list_append (metU al) (pv 7) (pa_cons (pe_op (opU al) (pe_op (opU al) (pe_slice (slU al) (pv 4) po_none (po_some (pv 5))) (pe_lst (pa_cons (pe_ix (ixU al) (pv 2) (pe_fn G__law_next (hr.mono (by first | decide | omega)) rfl (pa_cons (pv 1) (pa_cons pe_int pa_nil))) (fun _ _ => rfl)) pa_nil))) (pe_slice (slU al) (pv 4) (po_some (pv 5)) po_none)) pa_nil))) (pss_cons (ps_asg (pe_bmU K PySem.F.plainAttrs_str PySem.F.slot_str_join PySem.F.type_str_join (metU al) pe_str (pa_cons (pe_ix (ixU al) (pv 7) (pv 6) (fun _ _ => rfl)) pa_nil)) (pg_name (i := 8) sc_law.nd rfl (by first | exact Or.inl rfl | exact Or.inr rfl))) (pss_cons (ps_asg (pe_fn G__law_next (hr.mono (by first | decide | omega)) rfl (pa_cons (pv 1) (pa_cons (pe_op (opU al) (pe_callB (callU al) (by rfl) n_len b_len (pa_cons (pv 8) pa_nil)) pe_int) pa_nil))) (pg_name (i := 9) sc_law.nd rfl (by first | exact Or.inl rfl | exact Or.inr rfl))) (pss_cons (ps_asg (pe_op (opU al) (pe_op (opU al) (pe_slice (slU al) (pv 8) po_none (po_some (pv 9))) (pe_ix (ixU al) pe_str (pe_fn G__law_next (hr.mono (by first | decide | omega)) rfl (pa_cons (pv 1) (pa_cons pe_int pa_nil))) (fun _ _ => rfl))) (pe_slice (slU al) (pv 8) (po_some (pe_op (opU al) (pv 9) (pe_fn G__law_next (hr.mono (by first | decide | omega)) rfl (pa_cons (pv 1) (pa_cons pe_int pa_nil))))) po_none)) (pg_name (i := 10) sc_law.nd rfl (by first | exact Or.inl rfl | exact Or.inr rfl))) (pss_one (ps_for PassesOwn.never rfl (pi_val al (pe_lst (pa_cons (pv 8) (pa_cons (pv 10) (pa_cons (pe_op (opU al) (pv 8) pe_str) (pa_cons (pe_op (opU al) pe_str (pv 8)) pa_nil)))))) (pg_name (i := 11) sc_law.nd rfl (by first | exact Or.inl rfl | exact Or.inr rfl)) (pss_cons (ps_asg (pe_fn G__law_first (hr.mono (by first | decide | omega)) rfl (pa_cons (pv 11) pa_nil)) (pg_name (i := 12) sc_law.nd rfl (by first | exact Or.inl rfl | exact Or.inr rfl))) (pss_cons (ps_asg (pe_kind (k := 6) K KG TB rfl hq (hr.mono (by first | decide | omega)) rfl (LamX.lamS_by (sc := (defScope s_law)) (by decide +kernel)) rfl (fun _ _ _ _ _ => rfl) (fun A2 o2 s2 H2 E2 f2 c2 hr => (have al : Al P w K (LamX.lamCx _ A2 o2 s2 H2 E2 _ f2 c2) := al_of hr; (pe_fnX GX_read (hr.mono (by first | decide | omega)) (passes_call (takes_of rfl rfl rfl rfl) (fun _ _ _ _ hh => hh)) rfl (pa_cons (pv 11) pa_nil))))) (pg_name (i := 13) sc_law.nd rfl (by first | exact Or.inl rfl | exact Or.inr rfl))) (pss_cons (ps_if (PW.pt (pw_and (pt_cmpR (opU al) (pv 12) pe_int (nomark _)) (pw_and1 (pt_cmpR (opU al) (pv 13) (pe_tup (pa_cons pe_str (pa_cons (pv 12) pa_nil))) (nomark _))))) (pss_one (ps_ret pe_bl)) pss_nil) (pss_one (ps_if (PW.pt (pw_and (pt_cmpR (opU al) (pv 12) pe_int (nomark _)) (pw_and1 (pt_cmpR (opU al) (pe_ix (ixU al) (pv 13) pe_int (fun _ _ => rfl)) (pe_tup (pa_cons pe_str (pa_cons pe_str pa_nil))) rfl)))) (pss_one (ps_ret pe_bl)) pss_nil)))))))))))))))) (pss_cons (ps_asg (pe_lst (pa_cons (pe_kind (k := 6) K KG TB rfl hq (hr.mono (by first | decide | omega)) rfl (LamX.lamS_by (sc := (defScope s_law)) (by decide +kernel)) rfl (fun _ _ _ _ _ => rfl) (fun A2 o2 s2 H2 E2 f2 c2 hr => (have al : Al P w K (LamX.lamCx _ A2 o2 s2 H2 E2 _ f2 c2) := al_of hr; (pe_fnX GX_read (hr.mono (by first | decide | omega)) (passes_call (takes_of rfl rfl rfl rfl) (fun _ _ _ _ hh => hh)) rfl (pa_cons pe_str pa_nil))))) (pa_cons (pe_kindV (k := 6) K KG hq (hr.mono (by first | decide | omega)) rfl (pe_lamV (k := 6) (d := some 0) TB rfl hq ⟨_, _, rfl⟩ (lamS2_by (N := ["_law_script", "_law_h", "_law_odd", "_law_turn", "_law_rows", "_law_at", "_law_way", "_law_some", "_law_text", "_law_spot", "_law_bent", "_law_one", "_law_place", "_law_found"]) (sc := (defScope s_law)) (by decide +kernel)) ⟨"_law_a", by decide +kernel, fun _ _ _ _ _ _ => ⟨_, rfl, fun _ => rfl⟩⟩ (fun A2 o2 s2 H2 E2 f2 c2 hr => (have al : Al P w K (LamX.lamCx _ A2 o2 s2 H2 E2 _ f2 c2) := al_of hr; (pe_fnX GX_read (hr.mono (by first | decide | omega)) (passes_call (takes_of rfl rfl rfl rfl) (fun _ _ _ _ hh => hh)) rfl (pa_cons pe_str pa_nil))))) rfl) pa_nil))) (pg_name (i := 13) sc_law.nd rfl (by first | exact Or.inl rfl | exact Or.inr rfl))) (pss_one (ps_ret (pe_cmpR (opU al) (pv 13) (pe_lst (pa_cons (pe_tup (pa_cons pe_str (pa_cons pe_int pa_nil))) (pa_cons (pe_tup (pa_cons pe_str (pa_cons pe_int pa_nil))) pa_nil))) (nomark _))))))))), ?_⟩
    repeat tb_start
    refine ⟨B0, a, ns, 83, rfl, S.ex, hsq, hlen, by decide, by decide, fun m p q B1 H1 _ _ T1 => ?_⟩
    have S1 := S.callN T1
    repeat tb_start
    refine new_lst S1 (by show 8 ≤ sizeLine; decide) fun o1 Ho1 So1 => ?_
    repeat tb_start
    refine new_lst So1 (by show 9 ≤ sizeLine; decide) fun o2 Ho2 So2 => ?_
    repeat tb_start
    refine v_catQ So2 (So2.sqMem (.tail _ (.head _))) (So2.sqMem (.head _)) (by show 8 + 9 ≤ sizeLine; decide) fun od Ho3 So3 => ?_
    obtain ⟨Bod, eod, So4, hod⟩ := So3.toData (K := K) (ds := odd28.map PyData.str) (dpStrs odd28)
    have So5 : Ok F0 Bod (hL p q m ns 0 ++ [(PL, .tbl #[])]) Ho3 := So4.drop.drop
    repeat tb_start
    refine rngQ (by decide) (by decide) ?_
    refine forDS src_range So5 (fun i σ B1 L1 => (∃ yy3 yy4 yy5 yy6 yy7 yy8 yy9 yy10 yy11 yy12 yy13, σ = [some (.ref a), some (.ref p), some (.ref od), yy3, yy4, yy5, yy6, yy7, yy8, yy9, yy10, yy11, yy12, yy13]) ∧ ∃ pl m cs kk, HS cs kk ∧ TabL B1 lawq pl ∧ L1 = hL p q m cs kk ++ [(PL, .tbl pl)]) (fun _ _ _ _ _ _ => True.intro) ?_ ?_ ?_
    · exact ⟨⟨_, _, _, _, _, _, _, _, _, _, _, rfl⟩, _, _, _, _, ⟨hlen, by decide⟩, TabL.nil, rfl⟩
    · rintro i i2 x σ B0' B2 L1 H2 hget ⟨⟨_, _, _, _, _, _, _, _, _, _, _, rfl⟩, pl, m, cs, kk, hS, hT, rfl⟩ e1 e2 S2 rfl
      replace hod := hod.up (e1.trans e2)
      repeat tb_start
      refine ⟨B2, p, q, m, cs, kk, 6, rfl, by decide, by decide, S2.sub (L1 := hL p q m cs kk), hS, fun r rs m3 cs3 kk3 B3 H3 e3 M hfst hne hlen3 hrows hS3 T3 => ?_⟩
      have S3 : Ok F0 B3 (hL p q m3 cs3 kk3 ++ [(PL, .tbl pl)]) H3 := S2.call (L1 := hL p q m cs kk) T3
      have G := M.good
      repeat tb_start
      refine ⟨B3, r, rs, rfl, S3.ex, .inl hrows, G, fun B4 H4 T4 => ?_⟩
      have S4 := S3.callP T4
      have e4 := T4.ex0
      have tlen := G.text_len
      obtain ⟨ls, hls, hl1, hl2, hl20⟩ := book_rows G hne (by omega)
      repeat tb_start
      refine v_splitS S4 rfl (by rw [sizeLine_eq]; omega) fun lr H5 S5 => ?_
      rw [hls] at S5
      obtain ⟨B6, e6, S6, hlr⟩ := S5.toData (K := K) (dpStrs ls)
      repeat tb_start
      rw [List.length_map]
      refine nextQ [] [(PL, .tbl pl)] S6 hS3 (by omega) (by omega) fun n7 m7 cs7 kk7 H7 q0 q1 hS7 S7 => ?_
      replace S7 : Ok F0 B6 (hL p q m7 cs7 kk7 ++ [(PL, .tbl pl)]) H7 := (show Ok F0 B6 (hL p q m7 cs7 kk7 ++ [(PL, .tbl pl)]) H7 from S7)
      obtain ⟨at_, rfl⟩ := Int.eq_ofNat_of_zero_le q0
      have ea1 : ((at_ : Int) + 1) = ((at_ + 1 : Nat) : Int) := by omega
      have ea2 : ((at_ : Int) + 2) = ((at_ + 2 : Nat) : Int) := by omega
      repeat tb_start
      refine nextQ [] [(PL, .tbl pl)] S7 hS7 (by decide) (by decide) fun n8 m8 cs8 kk8 H8 w0 w1 hS8 S8 => ?_
      replace S8 : Ok F0 B6 (hL p q m8 cs8 kk8 ++ [(PL, .tbl pl)]) H8 := (show Ok F0 B6 (hL p q m8 cs8 kk8 ++ [(PL, .tbl pl)]) H8 from S8)
      obtain ⟨wy, rfl⟩ := Int.eq_ofNat_of_zero_le w0
      repeat tb_start
      refine v_slTo (j := at_) S8 hlr fun r10 B10 H10 e10 S10 h10 => ?_
      rw [← List.map_take] at h10
      repeat tb_start
      rw [ea1]
      refine v_slFrom (j := at_ + 1) S10 (hlr.up e10) fun r11 B11 H11 e11 S11 h11 => ?_
      rw [← List.map_drop] at h11
      repeat tb_start
      refine v_catDD S11 (h10.up e11) h11 (by simp only [List.length_take, List.length_drop, List.length_map, List.length_append, List.length_reverse, List.length_singleton, List.length_cons, List.length_nil]; omega) fun r12 B12 H12 e12 S12 h12 => ?_
      rw [← List.map_append] at h12
      repeat tb_start
      rw [ea1]
      refine v_slTo (j := at_ + 1) S12 (hlr.up (e10.trans (e11.trans e12))) fun r13 B13 H13 e13 S13 h13 => ?_
      rw [← List.map_take] at h13
      repeat tb_start
      refine v_slFrom (j := at_) S13 (hlr.up (e10.trans (e11.trans (e12.trans e13)))) fun r14 B14 H14 e14 S14 h14 => ?_
      rw [← List.map_drop] at h14
      repeat tb_start
      refine v_catDD S14 (h13.up e14) h14 (by simp only [List.length_take, List.length_drop, List.length_map, List.length_append, List.length_reverse, List.length_singleton, List.length_cons, List.length_nil]; omega) fun r15 B15 H15 e15 S15 h15 => ?_
      rw [← List.map_append] at h15
      repeat tb_start
      refine new_lst S15 (by show 2 ≤ sizeLine; decide) fun so H60 S60 => ?_
      repeat tb_start
      refine v_slTo (j := at_) S60 (hlr.up (e10.trans (e11.trans (e12.trans (e13.trans (e14.trans e15)))))) fun r61 B61 H61 e61 S61 h61 => ?_
      rw [← List.map_take] at h61
      repeat tb_start
      rw [ea2]
      refine v_slMid (i := at_) (j := at_ + 2) S61 (hlr.up (e10.trans (e11.trans (e12.trans (e13.trans (e14.trans (e15.trans e61))))))) fun r62 B62 H62 e62 S62 h62 => ?_
      rw [← List.map_take, ← List.map_drop] at h62
      repeat tb_start
      refine revD S62 h62 fun r63 B63 H63 e63 S63 h63 => ?_
      rw [← List.map_reverse] at h63
      repeat tb_start
      refine v_catDD S63 (h61.up (e62.trans e63)) h63 (by simp only [List.length_take, List.length_drop, List.length_map, List.length_append, List.length_reverse, List.length_singleton, List.length_cons, List.length_nil]; omega) fun r64 B64 H64 e64 S64 h64 => ?_
      rw [← List.map_append] at h64
      repeat tb_start
      rw [ea2]
      refine v_slFrom (j := at_ + 2) S64 (hlr.up (e10.trans (e11.trans (e12.trans (e13.trans (e14.trans (e15.trans (e61.trans (e62.trans (e63.trans e64)))))))))) fun r65 B65 H65 e65 S65 h65 => ?_
      rw [← List.map_drop] at h65
      repeat tb_start
      refine v_catDD S65 (h64.up e65) h65 (by simp only [List.length_take, List.length_drop, List.length_map, List.length_append, List.length_reverse, List.length_singleton, List.length_cons, List.length_nil]; omega) fun r66 B66 H66 e66 S66 h66 => ?_
      rw [← List.map_append] at h66
      repeat tb_start
      refine v_append S66 (by show 2 < sizeLine; decide) fun H70 S70 => ?_
      repeat tb_start
      refine v_slTo (j := at_) S70 (hlr.up (e10.trans (e11.trans (e12.trans (e13.trans (e14.trans (e15.trans (e61.trans (e62.trans (e63.trans (e64.trans (e65.trans e66)))))))))))) fun r71 B71 H71 e71 S71 h71 => ?_
      rw [← List.map_take] at h71
      repeat tb_start
      refine nextQ [(so, _)] [(PL, .tbl pl)] S71 hS8 (by decide) (by decide) fun n72 m72 cs72 kk72 H72 o0 o1 hS72 S72 => ?_
      obtain ⟨j72, rfl⟩ := Int.eq_ofNat_of_zero_le o0
      obtain ⟨oa, oxs, oe, hoq, hoa⟩ := Dp.lst_inv (hod.up (e3.trans (e4.trans (e6.trans (e10.trans (e11.trans (e12.trans (e13.trans (e14.trans (e15.trans (e61.trans (e62.trans (e63.trans (e64.trans (e65.trans (e66.trans e71))))))))))))))))
      cases oe
      obtain rfl := strs_inv hoa
      have hj72 : j72 < odd28.length := by show j72 < 17; omega
      have ho20 : (odd28[j72]).length ≤ 20 := of_decide_eq_true (List.all_eq_true.mp odd28_len _ (List.getElem_mem hj72))
      repeat tb_start
      refine v_ixL (S72.sqB hoq) (v := V.str odd28[j72]) (atI_nat (by rw [List.getElem?_map, List.getElem?_eq_getElem hj72]; rfl)) ?_
      generalize odd28[j72] = oz at ho20
      repeat tb_start
      refine new_lst S72 (by show 1 ≤ sizeLine; decide) fun l73 H73 S73 => ?_
      obtain ⟨B74, e74, S74, h74⟩ := S73.toData (K := K) (dpStrs [oz])
      repeat tb_start
      refine v_catDD S74 (h71.up e74) h74 (by simp only [List.length_take, List.length_drop, List.length_map, List.length_append, List.length_reverse, List.length_singleton, List.length_cons, List.length_nil]; omega) fun r75 B75 H75 e75 S75 h75 => ?_
      rw [← List.map_append] at h75
      repeat tb_start
      refine v_slFrom (j := at_) S75 (hlr.up (e10.trans (e11.trans (e12.trans (e13.trans (e14.trans (e15.trans (e61.trans (e62.trans (e63.trans (e64.trans (e65.trans (e66.trans (e71.trans (e74.trans e75))))))))))))))) fun r76 B76 H76 e76 S76 h76 => ?_
      rw [← List.map_drop] at h76
      repeat tb_start
      refine v_catDD S76 (h75.up e76) h76 (by simp only [List.length_take, List.length_drop, List.length_map, List.length_append, List.length_reverse, List.length_singleton, List.length_cons, List.length_nil]; omega) fun r77 B77 H77 e77 S77 h77 => ?_
      rw [← List.map_append] at h77
      repeat tb_start
      refine v_append S77 (by show 3 < sizeLine; decide) fun H90 S90 => ?_
      repeat tb_start
      have h20 : S20 ls := hl20
      obtain ⟨v91, l91, hv91, hd91, sm91⟩ : ∃ v l, ([r12, r15, r66, r77] : List V)[wy]? = some v ∧ Dp K B77 v (.list (l.map PyData.str)) ∧ SmallT l := by
        rcases (by omega : wy = 0 ∨ wy = 1 ∨ wy = 2 ∨ wy = 3) with rfl | rfl | rfl | rfl
        · exact ⟨_, _, rfl, (h12.up (e13.trans (e14.trans (e15.trans (e61.trans (e62.trans (e63.trans (e64.trans (e65.trans (e66.trans (e71.trans (e74.trans (e75.trans (e76.trans e77)))))))))))))), (by simp only [List.length_take, List.length_drop, List.length_append, List.length_reverse, List.length_singleton]; omega), (h20.take _).app (h20.drop _)⟩
        · exact ⟨_, _, rfl, (h15.up (e61.trans (e62.trans (e63.trans (e64.trans (e65.trans (e66.trans (e71.trans (e74.trans (e75.trans (e76.trans e77))))))))))), (by simp only [List.length_take, List.length_drop, List.length_append, List.length_reverse, List.length_singleton]; omega), (h20.take _).app (h20.drop _)⟩
        · exact ⟨_, _, rfl, (h66.up (e71.trans (e74.trans (e75.trans (e76.trans e77))))), (by simp only [List.length_take, List.length_drop, List.length_append, List.length_reverse, List.length_singleton]; omega), ((h20.take _).app ((h20.take _).drop _).rev).app (h20.drop _)⟩
        · exact ⟨_, _, rfl, h77, (by simp only [List.length_take, List.length_drop, List.length_append, List.length_reverse, List.length_singleton]; omega), ((h20.take _).app (S20.one ho20)).app (h20.drop _)⟩
      refine v_ixL (S90.sqMem (.head _)) (atI_nat hv91) ?_
      obtain ⟨ja, jxs, je, jq, jd⟩ := Dp.lst_inv hd91
      cases je
      obtain rfl := strs_inv jd
      repeat tb_start
      refine v_joinL (ys := l91) (S90.sqB jq) (Nat.le_trans sm91.sum (by decide)) ?_
      have htx0 := sm91.join
      generalize Txt.join (Str.ofString "\n") l91 = tx at htx0 ⊢
      have htx : tx.length ≤ 2352 := htx0
      have htz : tx.length ≤ sizeLine := by rw [sizeLine_eq]; omega
      have S91 : Ok F0 B77 (hL p q m72 cs72 kk72 ++ [(PL, .tbl pl)]) H90 := S90.drop
      clear hv91 hd91 sm91 jq jd
      repeat tb_start
      refine nextQ [] [(PL, .tbl pl)] S91 hS72 (by omega) (by omega) fun n92 m92 cs92 kk92 H92 sp0 sp1 hS92 S92 => ?_
      replace S92 : Ok F0 B77 (hL p q m92 cs92 kk92 ++ [(PL, .tbl pl)]) H92 := (show Ok F0 B77 (hL p q m92 cs92 kk92 ++ [(PL, .tbl pl)]) H92 from S92)
      obtain ⟨sp, rfl⟩ := Int.eq_ofNat_of_zero_le sp0
      repeat tb_start
      refine v_slStr htz ?_
      have hcut := cut_to_len tx sp
      generalize L2.cutS tx none (some (sp : Int)) = tx1 at hcut ⊢
      repeat tb_start
      refine nextQ [] [(PL, .tbl pl)] S92 hS92 (by decide) (by decide) fun n93 m93 cs93 kk93 H93 c0 c1 hS93 S93 => ?_
      replace S93 : Ok F0 B77 (hL p q m93 cs93 kk93 ++ [(PL, .tbl pl)]) H93 := (show Ok F0 B77 (hL p q m93 cs93 kk93 ++ [(PL, .tbl pl)]) H93 from S93)
      obtain ⟨j93, rfl⟩ := Int.eq_ofNat_of_zero_le c0
      have hj93 : j93 < ("a0 9\n-" : Str).cps.toList.length := by show j93 < 6; omega
      refine v_ixS (by decide +kernel) (atI_nat (List.getElem?_eq_getElem hj93)) ?_
      have hone : (⟨#[("a0 9\n-" : Str).cps.toList[j93]]⟩ : Str).length = 1 := rfl
      generalize (⟨#[("a0 9\n-" : Str).cps.toList[j93]]⟩ : Str) = tx2 at hone ⊢
      repeat tb_start
      refine v_addS (by rw [sizeLine_eq]; omega) ?_
      repeat tb_start
      refine nextQ [] [(PL, .tbl pl)] S93 hS93 (by decide) (by decide) fun n94 m94 cs94 kk94 H94 d0 d1 hS94 S94 => ?_
      replace S94 : Ok F0 B77 (hL p q m94 cs94 kk94 ++ [(PL, .tbl pl)]) H94 := (show Ok F0 B77 (hL p q m94 cs94 kk94 ++ [(PL, .tbl pl)]) H94 from S94)
      obtain ⟨j94, rfl⟩ := Int.eq_ofNat_of_zero_le d0
      repeat tb_start
      have esp : ((sp : Int) + (j94 : Int)) = ((sp + j94 : Nat) : Int) := by omega
      rw [esp]
      refine v_slStr htz ?_
      have hcut3 := cut_from_len tx (sp + j94)
      generalize L2.cutS tx (some ((sp + j94 : Nat) : Int)) none = tx3 at hcut3 ⊢
      have hadd := strLen_append tx1 tx2
      repeat tb_start
      refine v_addS (by rw [sizeLine_eq, hadd]; omega) ?_
      have hbt : ((tx1 ++ tx2) ++ tx3).length ≤ 2353 := by
        rw [strLen_append, hadd]
        omega
      generalize (tx1 ++ tx2) ++ tx3 = bt at hbt ⊢
      repeat tb_start
      refine v_addS (by rw [sizeLine_eq]; show _ + 1 ≤ _; omega) ?_
      have ht4 : (tx ++ (Str.ofString "\n")).length ≤ 2353 := by
        rw [strLen_append]
        show _ + 1 ≤ 2353
        omega
      generalize tx ++ (Str.ofString "\n") = tx4 at ht4 ⊢
      repeat tb_start
      refine v_addS (by rw [sizeLine_eq]; show 10 + _ ≤ _; omega) ?_
      have ht5 : ((Str.ofString "need pa 1\n") ++ tx).length ≤ 2362 := by
        rw [strLen_append]
        show 10 + _ ≤ 2362
        omega
      generalize (Str.ofString "need pa 1\n") ++ tx = tx5 at ht5 ⊢
      repeat tb_start
      refine new_lst S94 (by show 4 ≤ sizeLine; decide) fun l95 H95 S95 => ?_
      obtain ⟨B96, e96, S96, h96⟩ := S95.toData (K := K) (dpStrs [tx, bt, tx4, tx5])
      have h2400 : ∀ z ∈ [tx, bt, tx4, tx5], z.length ≤ 3000 := fun z hz => by
        simp only [List.mem_cons, List.not_mem_nil, or_false] at hz
        rcases hz with rfl | rfl | rfl | rfl <;> omega
      have e2e : Ex B2 B96 := e3.trans (e4.trans (e6.trans ((e10.trans (e11.trans (e12.trans (e13.trans (e14.trans (e15.trans (e61.trans (e62.trans (e63.trans (e64.trans (e65.trans (e66.trans (e71.trans (e74.trans (e75.trans (e76.trans e77)))))))))))))))).trans e96)))
      have S97 : Ok F0 B96 ((PL, .tbl pl) :: hL p q m94 cs94 kk94) H95 := S96.perm (List.perm_append_comm (l₂ := [(PL, HO.tbl pl)]))
      have hT97 := hT.up (e2.trans e2e)
      repeat tb_start
      refine forDL (enc := PyData.str) S97 h96 (fun j σ B1 L1 => (∃ yy3 yy4 yy5 yy6 yy7 yy8 yy9 yy10 yy11 yy12 yy13, σ = [some (.ref a), some (.ref p), some (.ref od), yy3, yy4, yy5, yy6, yy7, yy8, yy9, yy10, yy11, yy12, yy13]) ∧ ∃ pl, TabL B1 lawq pl ∧ L1 = (PL, .tbl pl) :: hL p q m94 cs94 kk94) ?_ ?_ ?_
      · exact ⟨⟨_, _, _, _, _, _, _, _, _, _, _, rfl⟩, _, hT97, rfl⟩
      · rintro j z xv σ B97 B98 L98 H98 hgj ⟨⟨_, _, _, _, _, _, _, _, _, _, _, rfl⟩, pl2, hTj, rfl⟩ e97 e98 S98 hxv
        obtain rfl := hxv.str_inv
        have hz := h2400 z (List.mem_of_getElem? hgj)
        have hTk := hTj.up e98
        repeat tb_start
        refine ⟨B98, z, rfl, S98.ex, hz, fun k hf B99 H99 T99 => ?_, fun st hst B99 H99 T99 => ?_⟩
        · have S99 := S98.callP T99
          have e99 := T99.ex0
          repeat tb_start
          refine lamKQ S99 (hTk.up e99) fun B100 pl3 H100 e100 hT100 S100 => ?_
          try unfold TTkind
          dsimp only
          repeat tb_start
          refine ⟨B100, z, rfl, S100.ex, hz, fun k' hf' => ?_, fun st hst => (fail_not hf hst).elim⟩
          obtain rfl := fail_uniq hf hf'
          refine fun cls dd B101 H101 e101 T101 rz => ⟨.text k, k6, rz.ex T101.ex, fun t H102 e102 n102 h102 => ?_⟩
          have S101 := S100.callP T101
          have S102 := S101.growB e102 n102 h102
          have e102b := S101.exB (o := .tup (rfV (.text k))) n102
          have hD : Dp K _ (.ref t) (.tuple (rfDs (.text k))) := dp_rf (upd_same (H := B101) (a := t) (o := .tup (rfV (.text k))))
          generalize upd B101 t (.tup (rfV (.text k))) = B102 at S102 e102b hD
          repeat tb_start
          refine new_tupD (K := K) S102 (ds := rfDs (.text k)) (.cons (.str _) (.cons (.int _) .nil)) (by simp) fun t103 B103 H103 e103 S103 h103 => ?_
          refine v_neSame S103 (hD.up e103) h103 (n := 3) (Shp.tup fun d hd => by
              simp only [rfDs, List.mem_cons, List.not_mem_nil, or_false] at hd
              rcases hd with rfl | rfl
              · exact Shp.str (by decide +kernel)
              · exact Shp.int) (by decide) ?_
          repeat tb_start
          exact NxE.mk' S103 (e97.trans (e98.trans (e99.trans (e100.trans (e101.trans (e102b.trans e103)))))) ⟨⟨_, _, _, _, _, _, _, _, _, _, _, rfl⟩, _, hT100.up (e101.trans (e102b.trans e103)), rfl⟩
        · have S99 := S98.callP T99
          have e99 := T99.ex0
          repeat tb_start
          refine lamKQ S99 (hTk.up e99) fun B100 pl3 H100 e100 hT100 S100 => ?_
          try unfold TTkind
          dsimp only
          repeat tb_start
          refine ⟨B100, z, rfl, S100.ex, hz, fun k' hf' => (fail_not hf' hst).elim, fun st' hst' => ⟨fun G' D acc B101 H101 e101 T101 hacc => ⟨by decide, fun t ht => ?_⟩, fun at' r' BA => ?_⟩⟩
          · have S101 := (S100.callN T101).drop
            have S102 := S101.newB (o := .tup [.str "", .int 0]) ht
            have e102b := S101.exB (o := .tup [.str "", .int 0]) ht
            have h102 := Dp.ofTup (K := K) (ds := [.str "", .int 0]) (upd_same (H := B101) (a := t) (o := .tup [.str "", .int 0])) (.cons (.str _) (.cons (.int _) .nil))
            have e102 := e101.trans e102b
            generalize upd B101 t (.tup [.str "", .int 0]) = B102 at S102 e102b h102 e102
            generalize upd H101 t (.tup [.str "", .int 0]) = H102 at S102 ⊢
            repeat tb_start
            refine v_ixDT (j := 0) S102 h102 rfl rfl fun u hu => ?_
            obtain rfl := hu.str_inv
            repeat tb_start
            refine new_tupD (K := K) S102 (ds := (["", "parts"] : List Str).map PyData.str) (dpStrs ["", "parts"]) (by simp) fun t103 B103 H103 e103 S103 h103 => ?_
            obtain ⟨ta, txs, te, tq, td⟩ := Dp.tup_inv h103
            cases te
            obtain rfl := strs_inv td
            refine v_notInT (zs := ["", "parts"]) (S103.tqB tq) ?_
            rw [decide_eq_true (show ("" : Str) ∈ (["", "parts"] : List Str) by decide +kernel)]
            repeat tb_start
            exact NxE.mk' S103 (e97.trans (e98.trans (e99.trans (e100.trans (e102.trans e103))))) ⟨⟨_, _, _, _, _, _, _, _, _, _, _, rfl⟩, _, hT100.up (e102.trans e103), rfl⟩
          · refine fun cls dd B101 H101 e101 T101 rz => ⟨.parts at', k0, rz.ex T101.ex, fun t H102 e102a n102 h102a => ?_⟩
            have S101 := S100.callP T101
            have S102 := S101.growB e102a n102 h102a
            have e102b := S101.exB (o := .tup (rfV (.parts at'))) n102
            have h102 : Dp K _ (.ref t) (.tuple (rfDs (.parts at'))) := dp_rf (upd_same (H := B101) (a := t) (o := .tup (rfV (.parts at'))))
            have e102 := e101.trans e102b
            generalize upd B101 t (.tup (rfV (.parts at'))) = B102 at S102 e102b h102 e102
            repeat tb_start
            refine v_ixDT (j := 0) S102 h102 rfl rfl fun u hu => ?_
            obtain rfl := hu.str_inv
            repeat tb_start
            refine new_tupD (K := K) S102 (ds := (["", "parts"] : List Str).map PyData.str) (dpStrs ["", "parts"]) (by simp) fun t103 B103 H103 e103 S103 h103 => ?_
            obtain ⟨ta, txs, te, tq, td⟩ := Dp.tup_inv h103
            cases te
            obtain rfl := strs_inv td
            refine v_notInT (zs := ["", "parts"]) (S103.tqB tq) ?_
            rw [decide_eq_true (show ("parts" : Str) ∈ (["", "parts"] : List Str) by decide +kernel)]
            repeat tb_start
            exact NxE.mk' S103 (e97.trans (e98.trans (e99.trans (e100.trans (e102.trans e103))))) ⟨⟨_, _, _, _, _, _, _, _, _, _, _, rfl⟩, _, hT100.up (e102.trans e103), rfl⟩
      · rintro σ B98 L98 H98 ⟨⟨_, _, _, _, _, _, _, _, _, _, _, rfl⟩, pl2, hTj, rfl⟩ e97 S98
        repeat tb_start
        have S99 : Ok F0 B98 (hL p q m94 cs94 kk94 ++ [(PL, .tbl pl2)]) H98 := S98.perm (List.perm_append_comm (l₁ := [(PL, HO.tbl pl2)]))
        exact NxE.mk' S99 (e1.trans (e2.trans (e2e.trans e97))) ⟨⟨_, _, _, _, _, _, _, _, _, _, _, rfl⟩, _, _, _, _, hS94, hTj, rfl⟩
    · rintro σ B2 L1 H2 ⟨⟨_, _, _, _, _, _, _, _, _, _, _, rfl⟩, pl, m, cs, kk, hS, hT, rfl⟩ e1 S2
      have S3 : Ok F0 B2 ((PL, .tbl pl) :: hL p q m cs kk) H2 := S2.perm (List.perm_append_comm (l₂ := [(PL, HO.tbl pl)]))
      repeat tb_start
      refine lamKQ S3 hT fun B4 pl4 H4 e4 hT4 S4 => ?_
      try unfold TTkind
      dsimp only
      repeat tb_start
      obtain ⟨st1, hs1, hr1⟩ := read1
      refine ⟨B4, _, rfl, S4.ex, by decide +kernel, fun k hf => (fail_not hf hs1).elim, fun st hst => ?_⟩
      rw [hs1] at hst
      cases hst
      rw [hr1]
      refine ⟨fun G => (bad_not G rs1_bad).elim, fun at' r' BA cls dd B50 H50 e50 T50 rz => ?_⟩
      obtain rfl := bad_uniq rs1_bad BA
      refine ⟨.parts (0 : Nat), k0, rz.ex T50.ex, fun t5 H5 e5a n5 h5a => ?_⟩
      have S50 := S4.callP T50
      have S5 := S50.growB e5a n5 h5a
      have e5b := S50.exB (o := .tup (rfV (.parts (0 : Nat)))) n5
      have hk5 : Dp K _ (.ref t5) (.tuple (rfDs (.parts (0 : Nat)))) := dp_rf (upd_same (H := B50) (a := t5) (o := .tup (rfV (.parts (0 : Nat)))))
      have e5 := e50.trans e5b
      generalize upd B50 t5 (.tup (rfV (.parts (0 : Nat)))) = B5 at S5 e5b hk5 e5
      clear S50 T50
      repeat tb_start
      refine lamVQ S5 (hT4.up e5) fun f6 B6 pl6 H6 e6 hT6 hL6 S6 => ?_
      refine ⟨f6, _, rfl, hL6.up S6.ex, ?_⟩
      try unfold TTkind
      dsimp only
      repeat tb_start
      obtain ⟨st2, hs2, hr2⟩ := read2
      refine ⟨B6, _, rfl, S6.ex, by decide +kernel, fun k hf => (fail_not hf hs2).elim, fun st hst => ?_⟩
      rw [hs2] at hst
      cases hst
      rw [hr2]
      refine ⟨fun G => (bad_not G rs2_bad).elim, fun at' r' BA cls dd B70 H70 e70 T70 rz => ?_⟩
      obtain rfl := bad_uniq rs2_bad BA
      refine ⟨.parts (1 : Nat), k0, rz.ex T70.ex, fun t7 H7 e7a n7 h7a => ?_⟩
      have S70 := S6.callP T70
      have S7 := S70.growB e7a n7 h7a
      have e7b := S70.exB (o := .tup (rfV (.parts (1 : Nat)))) n7
      have hk7 : Dp K _ (.ref t7) (.tuple (rfDs (.parts (1 : Nat)))) := dp_rf (upd_same (H := B70) (a := t7) (o := .tup (rfV (.parts (1 : Nat)))))
      have e7 := e70.trans e7b
      generalize upd B70 t7 (.tup (rfV (.parts (1 : Nat)))) = B7 at S7 e7b hk7 e7
      clear S70 T70
      repeat tb_start
      refine new_lst S7 (by show 2 ≤ sizeLine; decide) fun l8 H8 S8 => ?_
      obtain ⟨B9, e9, S9, h9⟩ := S8.toData (K := K) (ds := [.tuple (rfDs (.parts (0 : Nat))), .tuple (rfDs (.parts (1 : Nat)))]) (.cons (hk5.up (e6.trans e7)) (.cons hk7 .nil))
      repeat tb_start
      refine new_tupD (K := K) S9 (ds := rfDs (.parts (0 : Nat))) (.cons (.str _) (.cons (.int _) .nil)) (by simp) fun t10 B10 H10 e10 S10 h10 => ?_
      repeat tb_start
      refine new_tupD (K := K) S10 (ds := rfDs (.parts (1 : Nat))) (.cons (.str _) (.cons (.int _) .nil)) (by simp) fun t11 B11 H11 e11 S11 h11 => ?_
      repeat tb_start
      refine new_lst S11 (by show 2 ≤ sizeLine; decide) fun l12 H12 S12 => ?_
      obtain ⟨B13, e13, S13, h13⟩ := S12.toData (K := K) (ds := [.tuple (rfDs (.parts (0 : Nat))), .tuple (rfDs (.parts (1 : Nat)))]) (.cons (h10.up e11) (.cons h11 .nil))
      refine v_eqSame S13 (h9.up (e10.trans (e11.trans e13))) h13 (n := 3) (Shp.lst fun d hd => by
        simp only [List.mem_cons, List.not_mem_nil, or_false] at hd
        rcases hd with rfl | rfl <;> refine Shp.tup fun d hd => ?_
        all_goals
          simp only [rfDs, List.mem_cons, List.not_mem_nil, or_false] at hd
          rcases hd with rfl | rfl
        all_goals first | exact Shp.int | exact Shp.str (by decide +kernel)) (by decide) ?_
      repeat tb_start
      exact kend _
end
end LW

namespace LW
open PySem PySem.Spec PyProof.Rows L2 WK PM
/-- where the table of the code objects of a def lies -/
def ptIn (K : PySem.W.Frag) (x : Str) : Addr := match PySem.W.tabIn K x with
  | some (_, P) => P
  | none => 0
theorem all_mk {l : PySem.W.OpenLaw} {w : World} {K : PySem.W.Frag} {h : Heap} {mg : Str → Option Value} {fa : Addr} (X : K.In h) (G : h.Ns mainGlobals mg) (hfa : mg "law" = some (.ref fa))
    {f__law_mix : Addr} {od__law_mix an__law_mix : Option Addr} {sl__law_mix : Array (Option Value)} {oc__law_mix kV__law_mix dc__law_mix pm__law_mix cd__law_mix ct__law_mix : Value}
    {f__law_next : Addr} {od__law_next an__law_next : Option Addr} {sl__law_next : Array (Option Value)} {oc__law_next kV__law_next dc__law_next pm__law_next cd__law_next ct__law_next : Value}
    {f_is_name : Addr} {od_is_name an_is_name : Option Addr} {sl_is_name : Array (Option Value)} {oc_is_name kV_is_name dc_is_name pm_is_name cd_is_name ct_is_name : Value}
    {f__law_led : Addr} {od__law_led an__law_led : Option Addr} {sl__law_led : Array (Option Value)} {oc__law_led kV__law_led dc__law_led pm__law_led cd__law_led ct__law_led : Value}
    {f__law_parts : Addr} {od__law_parts an__law_parts : Option Addr} {sl__law_parts : Array (Option Value)} {oc__law_parts kV__law_parts dc__law_parts pm__law_parts cd__law_parts ct__law_parts : Value}
    {f_written : Addr} {od_written an_written : Option Addr} {sl_written : Array (Option Value)} {oc_written kV_written dc_written pm_written cd_written ct_written : Value}
    {f_number_in : Addr} {od_number_in an_number_in : Option Addr} {sl_number_in : Array (Option Value)} {oc_number_in kV_number_in dc_number_in pm_number_in cd_number_in ct_number_in : Value}
    {f__law_is_number : Addr} {od__law_is_number an__law_is_number : Option Addr} {sl__law_is_number : Array (Option Value)} {oc__law_is_number kV__law_is_number dc__law_is_number pm__law_is_number cd__law_is_number ct__law_is_number : Value}
    {f__law_is_name : Addr} {od__law_is_name an__law_is_name : Option Addr} {sl__law_is_name : Array (Option Value)} {oc__law_is_name kV__law_is_name dc__law_is_name pm__law_is_name cd__law_is_name ct__law_is_name : Value}
    {f_read : Addr} {od_read an_read : Option Addr} {sl_read : Array (Option Value)} {oc_read kV_read dc_read pm_read cd_read ct_read : Value}
    {f__law_first : Addr} {od__law_first an__law_first : Option Addr} {sl__law_first : Array (Option Value)} {oc__law_first kV__law_first dc__law_first pm__law_first cd__law_first ct__law_first : Value}
    {f_law : Addr} {od_law an_law : Option Addr} {sl_law : Array (Option Value)} {oc_law kV_law dc_law pm_law ct_law : Value}
    {ca_law : Addr}
    {f__law_kind : Addr} {od__law_kind an__law_kind : Option Addr} {sl__law_kind : Array (Option Value)} {oc__law_kind kV__law_kind dc__law_kind pm__law_kind cd__law_kind ct__law_kind : Value}
    {C_Parts : Addr}
    {f_Parts_is_row : Addr} {od_Parts_is_row an_Parts_is_row : Option Addr} {sl_Parts_is_row : Array (Option Value)} {oc_Parts_is_row kV_Parts_is_row dc_Parts_is_row pm_Parts_is_row cd_Parts_is_row ct_Parts_is_row : Value}
    {f_Parts_led_to : Addr} {od_Parts_led_to an_Parts_led_to : Option Addr} {sl_Parts_led_to : Array (Option Value)} {oc_Parts_led_to kV_Parts_led_to dc_Parts_led_to pm_Parts_led_to cd_Parts_led_to ct_Parts_led_to : Value}
    {f_Parts___init__ : Addr} {od_Parts___init__ an_Parts___init__ : Option Addr} {sl_Parts___init__ : Array (Option Value)} {oc_Parts___init__ kV_Parts___init__ dc_Parts___init__ pm_Parts___init__ cd_Parts___init__ ct_Parts___init__ : Value}
    {C_Reader : Addr}
    {f_Reader___init__ : Addr} {od_Reader___init__ an_Reader___init__ : Option Addr} {sl_Reader___init__ : Array (Option Value)} {oc_Reader___init__ kV_Reader___init__ dc_Reader___init__ pm_Reader___init__ cd_Reader___init__ ct_Reader___init__ : Value}
    {f_Reader_does_take : Addr} {od_Reader_does_take an_Reader_does_take : Option Addr} {sl_Reader_does_take : Array (Option Value)} {oc_Reader_does_take kV_Reader_does_take dc_Reader_does_take pm_Reader_does_take cd_Reader_does_take ct_Reader_does_take : Value}
    {tk_MOST_SIGNS : Tok}
    {tk_MOST_LOT : Tok}
    {tk_MOST_LEAD : Tok}
    {tk_MOST_NEED : Tok}
    {tk_MOST_STEPS : Tok}
    {tk_MACHINES : Tok}
    {tk_MOST_MINUTES : Tok}
    {tk_MOST_PARTS : Tok}
    {tk_MOST_LED : Tok}
    {tk_LETTERS : Tok}
    {tk_PART : Tok}
    {tk_NEED : Tok}
    {tk_STEP : Tok}
    {tk_FIGURES : Tok}
    {C_BadParts : Addr}
    {C_BadPart : Addr}
    {C_BadCount : Addr}
    {C_Lacks : Addr}
    {C_BadPiece : Addr}
    {C_BadLot : Addr}
    {C_BadText : Addr}
    {C_KinError : Addr}
    {nm_BadParts q_BadParts : Str} {N_BadParts : Addr} {bs_BadParts bm_BadParts sub_BadParts : List Value} {sn_BadParts : List Str} {ab_BadParts : Bool} {co_BadParts : Option Bool} {dd_BadParts : Option Addr} {x0_BadParts x1_BadParts x2_BadParts x3_BadParts x5_BadParts : Option Value}
    {f_BadParts___init__ : Addr} {od_BadParts___init__ an_BadParts___init__ : Option Addr} {sl_BadParts___init__ : Array (Option Value)} {oc_BadParts___init__ kV_BadParts___init__ dc_BadParts___init__ pm_BadParts___init__ cd_BadParts___init__ ct_BadParts___init__ : Value}
    {nm_BadText q_BadText : Str} {N_BadText : Addr} {bs_BadText bm_BadText sub_BadText : List Value} {sn_BadText : List Str} {ab_BadText : Bool} {co_BadText : Option Bool} {dd_BadText : Option Addr} {x0_BadText x1_BadText x2_BadText x3_BadText x5_BadText : Option Value}
    {f_BadText___init__ : Addr} {od_BadText___init__ an_BadText___init__ : Option Addr} {sl_BadText___init__ : Array (Option Value)} {oc_BadText___init__ kV_BadText___init__ dc_BadText___init__ pm_BadText___init__ cd_BadText___init__ ct_BadText___init__ : Value}
    (a__law_mix : PySem.W.nsIn K mainGlobals "_law_mix" = some (some (.ref f__law_mix)))
    (l__law_mix : K.lookup f__law_mix = some ⟨oc__law_mix, od__law_mix, .func (PySem.W.fnOf "_law_mix" "_law_mix" (defArgs s__law_mix) (defBody s__law_mix) (defScope s__law_mix) .none kV__law_mix dc__law_mix pm__law_mix an__law_mix cd__law_mix ct__law_mix), sl__law_mix⟩)
    (c__law_mix : PySem.W.codeIn K cd__law_mix "_law_mix" = true)
    (k__law_mix : PySem.W.keepIn K (.ref f__law_mix) = true)
    (a__law_next : PySem.W.nsIn K mainGlobals "_law_next" = some (some (.ref f__law_next)))
    (l__law_next : K.lookup f__law_next = some ⟨oc__law_next, od__law_next, .func (PySem.W.fnOf "_law_next" "_law_next" (defArgs s__law_next) (defBody s__law_next) (defScope s__law_next) .none kV__law_next dc__law_next pm__law_next an__law_next cd__law_next ct__law_next), sl__law_next⟩)
    (c__law_next : PySem.W.codeIn K cd__law_next "_law_next" = true)
    (k__law_next : PySem.W.keepIn K (.ref f__law_next) = true)
    (a_is_name : PySem.W.nsIn K mainGlobals "is_name" = some (some (.ref f_is_name)))
    (l_is_name : K.lookup f_is_name = some ⟨oc_is_name, od_is_name, .func (PySem.W.fnOf "is_name" "is_name" (defArgs s_is_name) (defBody s_is_name) (defScope s_is_name) .none kV_is_name dc_is_name pm_is_name an_is_name cd_is_name ct_is_name), sl_is_name⟩)
    (c_is_name : PySem.W.codeIn K cd_is_name "is_name" = true)
    (k_is_name : PySem.W.keepIn K (.ref f_is_name) = true)
    (a__law_led : PySem.W.nsIn K mainGlobals "_law_led" = some (some (.ref f__law_led)))
    (l__law_led : K.lookup f__law_led = some ⟨oc__law_led, od__law_led, .func (PySem.W.fnOf "_law_led" "_law_led" (defArgs s__law_led) (defBody s__law_led) (defScope s__law_led) .none kV__law_led dc__law_led pm__law_led an__law_led cd__law_led ct__law_led), sl__law_led⟩)
    (c__law_led : PySem.W.codeIn K cd__law_led "_law_led" = true)
    (k__law_led : PySem.W.keepIn K (.ref f__law_led) = true)
    (a__law_parts : PySem.W.nsIn K mainGlobals "_law_parts" = some (some (.ref f__law_parts)))
    (l__law_parts : K.lookup f__law_parts = some ⟨oc__law_parts, od__law_parts, .func (PySem.W.fnOf "_law_parts" "_law_parts" (defArgs s__law_parts) (defBody s__law_parts) (defScope s__law_parts) .none kV__law_parts dc__law_parts pm__law_parts an__law_parts cd__law_parts ct__law_parts), sl__law_parts⟩)
    (c__law_parts : PySem.W.codeIn K cd__law_parts "_law_parts" = true)
    (k__law_parts : PySem.W.keepIn K (.ref f__law_parts) = true)
    (a_written : PySem.W.nsIn K mainGlobals "written" = some (some (.ref f_written)))
    (l_written : K.lookup f_written = some ⟨oc_written, od_written, .func (PySem.W.fnOf "written" "written" (defArgs s_written) (defBody s_written) (defScope s_written) .none kV_written dc_written pm_written an_written cd_written ct_written), sl_written⟩)
    (c_written : PySem.W.codeIn K cd_written "written" = true)
    (k_written : PySem.W.keepIn K (.ref f_written) = true)
    (a_number_in : PySem.W.nsIn K mainGlobals "number_in" = some (some (.ref f_number_in)))
    (l_number_in : K.lookup f_number_in = some ⟨oc_number_in, od_number_in, .func (PySem.W.fnOf "number_in" "number_in" (defArgs s_number_in) (defBody s_number_in) (defScope s_number_in) .none kV_number_in dc_number_in pm_number_in an_number_in cd_number_in ct_number_in), sl_number_in⟩)
    (c_number_in : PySem.W.codeIn K cd_number_in "number_in" = true)
    (k_number_in : PySem.W.keepIn K (.ref f_number_in) = true)
    (a__law_is_number : PySem.W.nsIn K mainGlobals "_law_is_number" = some (some (.ref f__law_is_number)))
    (l__law_is_number : K.lookup f__law_is_number = some ⟨oc__law_is_number, od__law_is_number, .func (PySem.W.fnOf "_law_is_number" "_law_is_number" (defArgs s__law_is_number) (defBody s__law_is_number) (defScope s__law_is_number) .none kV__law_is_number dc__law_is_number pm__law_is_number an__law_is_number cd__law_is_number ct__law_is_number), sl__law_is_number⟩)
    (c__law_is_number : PySem.W.codeIn K cd__law_is_number "_law_is_number" = true)
    (k__law_is_number : PySem.W.keepIn K (.ref f__law_is_number) = true)
    (a__law_is_name : PySem.W.nsIn K mainGlobals "_law_is_name" = some (some (.ref f__law_is_name)))
    (l__law_is_name : K.lookup f__law_is_name = some ⟨oc__law_is_name, od__law_is_name, .func (PySem.W.fnOf "_law_is_name" "_law_is_name" (defArgs s__law_is_name) (defBody s__law_is_name) (defScope s__law_is_name) .none kV__law_is_name dc__law_is_name pm__law_is_name an__law_is_name cd__law_is_name ct__law_is_name), sl__law_is_name⟩)
    (c__law_is_name : PySem.W.codeIn K cd__law_is_name "_law_is_name" = true)
    (k__law_is_name : PySem.W.keepIn K (.ref f__law_is_name) = true)
    (a_read : PySem.W.nsIn K mainGlobals "read" = some (some (.ref f_read)))
    (l_read : K.lookup f_read = some ⟨oc_read, od_read, .func (PySem.W.fnOf "read" "read" (defArgs s_read) (defBody s_read) (defScope s_read) .none kV_read dc_read pm_read an_read cd_read ct_read), sl_read⟩)
    (c_read : PySem.W.codeIn K cd_read "read" = true)
    (k_read : PySem.W.keepIn K (.ref f_read) = true)
    (a__law_first : PySem.W.nsIn K mainGlobals "_law_first" = some (some (.ref f__law_first)))
    (l__law_first : K.lookup f__law_first = some ⟨oc__law_first, od__law_first, .func (PySem.W.fnOf "_law_first" "_law_first" (defArgs s__law_first) (defBody s__law_first) (defScope s__law_first) .none kV__law_first dc__law_first pm__law_first an__law_first cd__law_first ct__law_first), sl__law_first⟩)
    (c__law_first : PySem.W.codeIn K cd__law_first "_law_first" = true)
    (k__law_first : PySem.W.keepIn K (.ref f__law_first) = true)
    (a_law : PySem.W.nsIn K mainGlobals "law" = some (some (.ref f_law)))
    (l_law : K.lookup f_law = some ⟨oc_law, od_law, .func (PySem.W.fnOf "law" "law" (defArgs s_law) (defBody s_law) (defScope s_law) .none kV_law dc_law pm_law an_law (.ref ca_law) ct_law), sl_law⟩)
    (c_law : PySem.W.codeIn K (.ref ca_law) "law" = true)
    (tb_law : PySem.W.tabIn K "law" = some (ca_law, (ptIn K "law")))
    (nt_law : K.lookup (ptIn K "law") = none)
    (k_law : PySem.W.keepIn K (.ref f_law) = true)
    (a__law_kind : PySem.W.nsIn K mainGlobals "_law_kind" = some (some (.ref f__law_kind)))
    (l__law_kind : K.lookup f__law_kind = some ⟨oc__law_kind, od__law_kind, .func (PySem.W.fnOf "_law_kind" "_law_kind" (defArgs s__law_kind) (defBody s__law_kind) (defScope s__law_kind) .none kV__law_kind dc__law_kind pm__law_kind an__law_kind cd__law_kind ct__law_kind), sl__law_kind⟩)
    (c__law_kind : PySem.W.codeIn K cd__law_kind "_law_kind" = true)
    (k__law_kind : PySem.W.keepIn K (.ref f__law_kind) = true)
    (aC_Parts : PySem.W.nsIn K mainGlobals "Parts" = some (some (.ref C_Parts)))
    (a_Parts_is_row : PySem.W.findIn K (.ref C_Parts) "is_row" = some (some (.ref f_Parts_is_row)))
    (i_Parts_is_row : PySem.W.isFn K (.ref f_Parts_is_row) = true)
    (l_Parts_is_row : K.lookup f_Parts_is_row = some ⟨oc_Parts_is_row, od_Parts_is_row, .func (PySem.W.fnOf "is_row" "Parts.is_row" (defArgs s_Parts_is_row) (defBody s_Parts_is_row) (defScope s_Parts_is_row) .none kV_Parts_is_row dc_Parts_is_row pm_Parts_is_row an_Parts_is_row cd_Parts_is_row ct_Parts_is_row), sl_Parts_is_row⟩)
    (c_Parts_is_row : PySem.W.codeIn K cd_Parts_is_row "Parts.is_row" = true)
    (k_Parts_is_row : PySem.W.keepIn K (.ref f_Parts_is_row) = true)
    (a_Parts_led_to : PySem.W.findIn K (.ref C_Parts) "led_to" = some (some (.ref f_Parts_led_to)))
    (i_Parts_led_to : PySem.W.isFn K (.ref f_Parts_led_to) = true)
    (l_Parts_led_to : K.lookup f_Parts_led_to = some ⟨oc_Parts_led_to, od_Parts_led_to, .func (PySem.W.fnOf "led_to" "Parts.led_to" (defArgs s_Parts_led_to) (defBody s_Parts_led_to) (defScope s_Parts_led_to) .none kV_Parts_led_to dc_Parts_led_to pm_Parts_led_to an_Parts_led_to cd_Parts_led_to ct_Parts_led_to), sl_Parts_led_to⟩)
    (c_Parts_led_to : PySem.W.codeIn K cd_Parts_led_to "Parts.led_to" = true)
    (k_Parts_led_to : PySem.W.keepIn K (.ref f_Parts_led_to) = true)
    (a_Parts___init__ : PySem.W.findIn K (.ref C_Parts) "__init__" = some (some (.ref f_Parts___init__)))
    (i_Parts___init__ : PySem.W.isFn K (.ref f_Parts___init__) = true)
    (l_Parts___init__ : K.lookup f_Parts___init__ = some ⟨oc_Parts___init__, od_Parts___init__, .func (PySem.W.fnOf "__init__" "Parts.__init__" (defArgs s_Parts___init__) (defBody s_Parts___init__) (defScope s_Parts___init__) .none kV_Parts___init__ dc_Parts___init__ pm_Parts___init__ an_Parts___init__ cd_Parts___init__ ct_Parts___init__), sl_Parts___init__⟩)
    (c_Parts___init__ : PySem.W.codeIn K cd_Parts___init__ "Parts.__init__" = true)
    (k_Parts___init__ : PySem.W.keepIn K (.ref f_Parts___init__) = true)
    (pg_Parts : PySem.W.plainGet K C_Parts Str.empty = true)
    (hd_Parts : PySem.W.hasDictIn K C_Parts = true)
    (po_Parts : PySem.W.plainOver K C_Parts = true)
    (sa_Parts : PySem.W.findIn K (.ref C_Parts) "__setattr__" = some (some (.builtin "object.__setattr__")))
    (mk_Parts : PySem.W.makesIn K C_Parts = true)
    (kc_Parts : PySem.W.keepIn K (.ref C_Parts) = true)
    (n_Parts_rows : PySem.W.findIn K (.ref C_Parts) "rows" = some none)
    (n_Parts_led : PySem.W.findIn K (.ref C_Parts) "led" = some none)
    (aC_Reader : PySem.W.nsIn K mainGlobals "Reader" = some (some (.ref C_Reader)))
    (a_Reader___init__ : PySem.W.findIn K (.ref C_Reader) "__init__" = some (some (.ref f_Reader___init__)))
    (i_Reader___init__ : PySem.W.isFn K (.ref f_Reader___init__) = true)
    (l_Reader___init__ : K.lookup f_Reader___init__ = some ⟨oc_Reader___init__, od_Reader___init__, .func (PySem.W.fnOf "__init__" "Reader.__init__" (defArgs s_Reader___init__) (defBody s_Reader___init__) (defScope s_Reader___init__) .none kV_Reader___init__ dc_Reader___init__ pm_Reader___init__ an_Reader___init__ cd_Reader___init__ ct_Reader___init__), sl_Reader___init__⟩)
    (c_Reader___init__ : PySem.W.codeIn K cd_Reader___init__ "Reader.__init__" = true)
    (k_Reader___init__ : PySem.W.keepIn K (.ref f_Reader___init__) = true)
    (a_Reader_does_take : PySem.W.findIn K (.ref C_Reader) "does_take" = some (some (.ref f_Reader_does_take)))
    (i_Reader_does_take : PySem.W.isFn K (.ref f_Reader_does_take) = true)
    (l_Reader_does_take : K.lookup f_Reader_does_take = some ⟨oc_Reader_does_take, od_Reader_does_take, .func (PySem.W.fnOf "does_take" "Reader.does_take" (defArgs s_Reader_does_take) (defBody s_Reader_does_take) (defScope s_Reader_does_take) .none kV_Reader_does_take dc_Reader_does_take pm_Reader_does_take an_Reader_does_take cd_Reader_does_take ct_Reader_does_take), sl_Reader_does_take⟩)
    (c_Reader_does_take : PySem.W.codeIn K cd_Reader_does_take "Reader.does_take" = true)
    (k_Reader_does_take : PySem.W.keepIn K (.ref f_Reader_does_take) = true)
    (pg_Reader : PySem.W.plainGet K C_Reader Str.empty = true)
    (hd_Reader : PySem.W.hasDictIn K C_Reader = true)
    (po_Reader : PySem.W.plainOver K C_Reader = true)
    (sa_Reader : PySem.W.findIn K (.ref C_Reader) "__setattr__" = some (some (.builtin "object.__setattr__")))
    (mk_Reader : PySem.W.makesIn K C_Reader = true)
    (kc_Reader : PySem.W.keepIn K (.ref C_Reader) = true)
    (n_Reader_rows : PySem.W.findIn K (.ref C_Reader) "rows" = some none)
    (g_MOST_SIGNS : PySem.W.nsIn K mainGlobals "MOST_SIGNS" = some (some (.int 8 tk_MOST_SIGNS)))
    (g_MOST_LOT : PySem.W.nsIn K mainGlobals "MOST_LOT" = some (some (.int 99 tk_MOST_LOT)))
    (g_MOST_LEAD : PySem.W.nsIn K mainGlobals "MOST_LEAD" = some (some (.int 30 tk_MOST_LEAD)))
    (g_MOST_NEED : PySem.W.nsIn K mainGlobals "MOST_NEED" = some (some (.int 9 tk_MOST_NEED)))
    (g_MOST_STEPS : PySem.W.nsIn K mainGlobals "MOST_STEPS" = some (some (.int 5 tk_MOST_STEPS)))
    (g_MACHINES : PySem.W.nsIn K mainGlobals "MACHINES" = some (some (.int 6 tk_MACHINES)))
    (g_MOST_MINUTES : PySem.W.nsIn K mainGlobals "MOST_MINUTES" = some (some (.int 99 tk_MOST_MINUTES)))
    (g_MOST_PARTS : PySem.W.nsIn K mainGlobals "MOST_PARTS" = some (some (.int 12 tk_MOST_PARTS)))
    (g_MOST_LED : PySem.W.nsIn K mainGlobals "MOST_LED" = some (some (.int 200 tk_MOST_LED)))
    (g_LETTERS : PySem.W.nsIn K mainGlobals "LETTERS" = some (some (.str letters tk_LETTERS)))
    (g_PART : PySem.W.nsIn K mainGlobals "PART" = some (some (.str "part" tk_PART)))
    (g_NEED : PySem.W.nsIn K mainGlobals "NEED" = some (some (.str "need" tk_NEED)))
    (g_STEP : PySem.W.nsIn K mainGlobals "STEP" = some (some (.str "step" tk_STEP)))
    (g_FIGURES : PySem.W.nsIn K mainGlobals "FIGURES" = some (some (.str figs tk_FIGURES)))
    (aC_BadParts : PySem.W.nsIn K mainGlobals "BadParts" = some (some (.ref C_BadParts)))
    (aC_BadPart : PySem.W.nsIn K mainGlobals "BadPart" = some (some (.ref C_BadPart)))
    (aC_BadCount : PySem.W.nsIn K mainGlobals "BadCount" = some (some (.ref C_BadCount)))
    (aC_Lacks : PySem.W.nsIn K mainGlobals "Lacks" = some (some (.ref C_Lacks)))
    (aC_BadPiece : PySem.W.nsIn K mainGlobals "BadPiece" = some (some (.ref C_BadPiece)))
    (aC_BadLot : PySem.W.nsIn K mainGlobals "BadLot" = some (some (.ref C_BadLot)))
    (aC_BadText : PySem.W.nsIn K mainGlobals "BadText" = some (some (.ref C_BadText)))
    (aC_KinError : PySem.W.nsIn K mainGlobals "KinError" = some (some (.ref C_KinError)))
    (s_KE : PySem.W.specialIn K (.ref C_KinError) "__getattribute__" = some (some (.builtin "type.__getattribute__")))
    (r_KE : PySem.W.readsIn K C_KinError (.type "type") = true)
    (v_KE : PySem.W.findCls K (.ref C_KinError) (.type "type") "__init__" = some (.val (.builtin "ValueError.__init__")))
    (xn : PySem.W.specialIn K (.builtin "object.__class__") "__get__" = some (some (.builtin "getset_descriptor.__get__")))
    (xt : PySem.W.takesIn K (.builtin "object.__class__") = some true)
    (ex_BadParts : PySem.W.subIn K (.ref C_BadParts) (.type "BaseException") = some true)
    (ty_BadParts : PySem.W.typeIn K (.ref C_BadParts) = some (.type "type"))
    (kp_BadParts : PySem.W.keepIn K (.ref C_BadParts) = true)
    (hg_BadParts : PySem.W.findIn K (.ref C_BadParts) "__getattribute__" = some (some (.builtin "BaseException.__getattribute__")))
    (hk_BadParts : PySem.W.findIn K (.ref C_BadParts) "__getattr__" = some none)
    (hd_BadParts : PySem.W.hasDictIn K C_BadParts = true)
    (ha_BadParts : PySem.W.findIn K (.ref C_BadParts) "__class__" = some (some (.builtin "object.__class__")))
    (hm_BadParts : PySem.W.mroIn K C_BadParts (.type "object") = some true)
    (em_BadParts : PySem.W.exmOne K (.ref C_BadParts) (.ref C_KinError) = some true)
    (k0_BadParts : PySem.W.kitOne K (.ref C_BadParts) (.ref C_BadParts) = some true)
    (k1_BadParts : PySem.W.kitOne K (.ref C_BadParts) (.ref C_BadPart) = some false)
    (k2_BadParts : PySem.W.kitOne K (.ref C_BadParts) (.ref C_BadCount) = some false)
    (k3_BadParts : PySem.W.kitOne K (.ref C_BadParts) (.ref C_Lacks) = some false)
    (k4_BadParts : PySem.W.kitOne K (.ref C_BadParts) (.ref C_BadPiece) = some false)
    (k5_BadParts : PySem.W.kitOne K (.ref C_BadParts) (.ref C_BadLot) = some false)
    (k6_BadParts : PySem.W.kitOne K (.ref C_BadParts) (.ref C_BadText) = some false)
    (kv_BadParts : PySem.W.kitOne K (.ref C_BadParts) (.type "ValueError") = some true)
    (nf_BadParts : PySem.W.findIn K (.ref C_BadParts) "at" = some none)
    (xl_BadParts : K.lookup C_BadParts = some (excClassObj nm_BadParts q_BadParts C_BadParts N_BadParts bs_BadParts bm_BadParts true sn_BadParts sub_BadParts ab_BadParts co_BadParts dd_BadParts x0_BadParts x1_BadParts x2_BadParts x3_BadParts x5_BadParts "ValueError.__new__"))
    (xr_BadParts : PySem.HandSPX.refsVE bm_BadParts = true)
    (sa_BadParts : PySem.W.findIn K (.ref C_BadParts) "__setattr__" = some (some (.builtin "object.__setattr__")))
    (a_BadParts___init__ : PySem.W.findIn K (.ref C_BadParts) "__init__" = some (some (.ref f_BadParts___init__)))
    (i_BadParts___init__ : PySem.W.isFn K (.ref f_BadParts___init__) = true)
    (l_BadParts___init__ : K.lookup f_BadParts___init__ = some ⟨oc_BadParts___init__, od_BadParts___init__, .func (PySem.W.fnOf "__init__" "BadParts.__init__" (defArgs s_BadParts___init__) (defBody s_BadParts___init__) (defScope s_BadParts___init__) .none kV_BadParts___init__ dc_BadParts___init__ pm_BadParts___init__ an_BadParts___init__ cd_BadParts___init__ ct_BadParts___init__), sl_BadParts___init__⟩)
    (c_BadParts___init__ : PySem.W.codeIn K cd_BadParts___init__ "BadParts.__init__" = true)
    (k_BadParts___init__ : PySem.W.keepIn K (.ref f_BadParts___init__) = true)
    (ex_BadText : PySem.W.subIn K (.ref C_BadText) (.type "BaseException") = some true)
    (ty_BadText : PySem.W.typeIn K (.ref C_BadText) = some (.type "type"))
    (kp_BadText : PySem.W.keepIn K (.ref C_BadText) = true)
    (hg_BadText : PySem.W.findIn K (.ref C_BadText) "__getattribute__" = some (some (.builtin "BaseException.__getattribute__")))
    (hk_BadText : PySem.W.findIn K (.ref C_BadText) "__getattr__" = some none)
    (hd_BadText : PySem.W.hasDictIn K C_BadText = true)
    (ha_BadText : PySem.W.findIn K (.ref C_BadText) "__class__" = some (some (.builtin "object.__class__")))
    (hm_BadText : PySem.W.mroIn K C_BadText (.type "object") = some true)
    (em_BadText : PySem.W.exmOne K (.ref C_BadText) (.ref C_KinError) = some true)
    (k0_BadText : PySem.W.kitOne K (.ref C_BadText) (.ref C_BadParts) = some false)
    (k1_BadText : PySem.W.kitOne K (.ref C_BadText) (.ref C_BadPart) = some false)
    (k2_BadText : PySem.W.kitOne K (.ref C_BadText) (.ref C_BadCount) = some false)
    (k3_BadText : PySem.W.kitOne K (.ref C_BadText) (.ref C_Lacks) = some false)
    (k4_BadText : PySem.W.kitOne K (.ref C_BadText) (.ref C_BadPiece) = some false)
    (k5_BadText : PySem.W.kitOne K (.ref C_BadText) (.ref C_BadLot) = some false)
    (k6_BadText : PySem.W.kitOne K (.ref C_BadText) (.ref C_BadText) = some true)
    (kv_BadText : PySem.W.kitOne K (.ref C_BadText) (.type "ValueError") = some true)
    (nf_BadText : PySem.W.findIn K (.ref C_BadText) "row" = some none)
    (xl_BadText : K.lookup C_BadText = some (excClassObj nm_BadText q_BadText C_BadText N_BadText bs_BadText bm_BadText true sn_BadText sub_BadText ab_BadText co_BadText dd_BadText x0_BadText x1_BadText x2_BadText x3_BadText x5_BadText "ValueError.__new__"))
    (xr_BadText : PySem.HandSPX.refsVE bm_BadText = true)
    (sa_BadText : PySem.W.findIn K (.ref C_BadText) "__setattr__" = some (some (.builtin "object.__setattr__")))
    (a_BadText___init__ : PySem.W.findIn K (.ref C_BadText) "__init__" = some (some (.ref f_BadText___init__)))
    (i_BadText___init__ : PySem.W.isFn K (.ref f_BadText___init__) = true)
    (l_BadText___init__ : K.lookup f_BadText___init__ = some ⟨oc_BadText___init__, od_BadText___init__, .func (PySem.W.fnOf "__init__" "BadText.__init__" (defArgs s_BadText___init__) (defBody s_BadText___init__) (defScope s_BadText___init__) .none kV_BadText___init__ dc_BadText___init__ pm_BadText___init__ an_BadText___init__ cd_BadText___init__ ct_BadText___init__), sl_BadText___init__⟩)
    (c_BadText___init__ : PySem.W.codeIn K cd_BadText___init__ "BadText.__init__" = true)
    (k_BadText___init__ : PySem.W.keepIn K (.ref f_BadText___init__) = true)
    (z_ValueError : PySem.W.nsIn K mainGlobals "ValueError" = some none)
    (z_isinstance : PySem.W.nsIn K mainGlobals "isinstance" = some none)
    (z_list : PySem.W.nsIn K mainGlobals "list" = some none)
    (z_max : PySem.W.nsIn K mainGlobals "max" = some none)
    (z_len : PySem.W.nsIn K mainGlobals "len" = some none)
    (z_all : PySem.W.nsIn K mainGlobals "all" = some none)
    (z_set : PySem.W.nsIn K mainGlobals "set" = some none)
    (z_enumerate : PySem.W.nsIn K mainGlobals "enumerate" = some none)
    (z_tuple : PySem.W.nsIn K mainGlobals "tuple" = some none)
    (z_sum : PySem.W.nsIn K mainGlobals "sum" = some none)
    (z_range : PySem.W.nsIn K mainGlobals "range" = some none)
    (z_str : PySem.W.nsIn K mainGlobals "str" = some none)
    (z_int : PySem.W.nsIn K mainGlobals "int" = some none)
    (TT : ∀ y ∈ (["law"] : List Str), ∀ c PT, PySem.W.tabIn K y = some (c, PT) → PySem.W.CodeHd h c PT ∧ h.get? PT = some { cls := .none, data := .fields #[] }) : LamX.LawAtS l w K CX0 15 63 "_law_script" mg fa h := by
  have e := hfa.symm.trans (PySem.W.mg_of X G a_law)
  cases e
  have F__law_mix := fun_mk (st := s__law_mix) l__law_mix c__law_mix k__law_mix
  have m__law_mix := PySem.W.mg_of X G a__law_mix
  have F__law_next := fun_mk (st := s__law_next) l__law_next c__law_next k__law_next
  have m__law_next := PySem.W.mg_of X G a__law_next
  have F_is_name := fun_mk (st := s_is_name) l_is_name c_is_name k_is_name
  have m_is_name := PySem.W.mg_of X G a_is_name
  have F__law_led := fun_mk (st := s__law_led) l__law_led c__law_led k__law_led
  have m__law_led := PySem.W.mg_of X G a__law_led
  have F__law_parts := fun_mk (st := s__law_parts) l__law_parts c__law_parts k__law_parts
  have m__law_parts := PySem.W.mg_of X G a__law_parts
  have F_written := fun_mk (st := s_written) l_written c_written k_written
  have m_written := PySem.W.mg_of X G a_written
  have F_number_in := fun_mk (st := s_number_in) l_number_in c_number_in k_number_in
  have m_number_in := PySem.W.mg_of X G a_number_in
  have F__law_is_number := fun_mk (st := s__law_is_number) l__law_is_number c__law_is_number k__law_is_number
  have m__law_is_number := PySem.W.mg_of X G a__law_is_number
  have F__law_is_name := fun_mk (st := s__law_is_name) l__law_is_name c__law_is_name k__law_is_name
  have m__law_is_name := PySem.W.mg_of X G a__law_is_name
  have F_read := fun_mk (st := s_read) l_read c_read k_read
  have m_read := PySem.W.mg_of X G a_read
  have F__law_first := fun_mk (st := s__law_first) l__law_first c__law_first k__law_first
  have m__law_first := PySem.W.mg_of X G a__law_first
  have F_law : FunC K "law" "law" s_law _ ca_law _ := ⟨⟨oc_law, od_law, kV_law, dc_law, pm_law, an_law, ct_law, sl_law, rfl, l_law, c_law⟩, k_law⟩
  have m_law := PySem.W.mg_of X G a_law
  have F__law_kind := fun_mk (st := s__law_kind) l__law_kind c__law_kind k__law_kind
  have m__law_kind := PySem.W.mg_of X G a__law_kind
  have F_Parts_is_row := fun_mk (st := s_Parts_is_row) l_Parts_is_row c_Parts_is_row k_Parts_is_row
  have F_Parts_led_to := fun_mk (st := s_Parts_led_to) l_Parts_led_to c_Parts_led_to k_Parts_led_to
  have F_Parts___init__ := fun_mk (st := s_Parts___init__) l_Parts___init__ c_Parts___init__ k_Parts___init__
  have cl_Parts : Cls K C_Parts := ⟨pg_Parts, hd_Parts, po_Parts, sa_Parts⟩
  have mC_Parts := PySem.W.mg_of X G aC_Parts
  have F_Reader___init__ := fun_mk (st := s_Reader___init__) l_Reader___init__ c_Reader___init__ k_Reader___init__
  have F_Reader_does_take := fun_mk (st := s_Reader_does_take) l_Reader_does_take c_Reader_does_take k_Reader_does_take
  have cl_Reader : Cls K C_Reader := ⟨pg_Reader, hd_Reader, po_Reader, sa_Reader⟩
  have mC_Reader := PySem.W.mg_of X G aC_Reader
  have c_MOST_SIGNS : GlI mg "MOST_SIGNS" 8 := ⟨_, PySem.W.mg_of X G g_MOST_SIGNS⟩
  have c_MOST_LOT : GlI mg "MOST_LOT" 99 := ⟨_, PySem.W.mg_of X G g_MOST_LOT⟩
  have c_MOST_LEAD : GlI mg "MOST_LEAD" 30 := ⟨_, PySem.W.mg_of X G g_MOST_LEAD⟩
  have c_MOST_NEED : GlI mg "MOST_NEED" 9 := ⟨_, PySem.W.mg_of X G g_MOST_NEED⟩
  have c_MOST_STEPS : GlI mg "MOST_STEPS" 5 := ⟨_, PySem.W.mg_of X G g_MOST_STEPS⟩
  have c_MACHINES : GlI mg "MACHINES" 6 := ⟨_, PySem.W.mg_of X G g_MACHINES⟩
  have c_MOST_MINUTES : GlI mg "MOST_MINUTES" 99 := ⟨_, PySem.W.mg_of X G g_MOST_MINUTES⟩
  have c_MOST_PARTS : GlI mg "MOST_PARTS" 12 := ⟨_, PySem.W.mg_of X G g_MOST_PARTS⟩
  have c_MOST_LED : GlI mg "MOST_LED" 200 := ⟨_, PySem.W.mg_of X G g_MOST_LED⟩
  have c_LETTERS : GlS mg "LETTERS" letters := ⟨_, PySem.W.mg_of X G g_LETTERS⟩
  have c_PART : GlS mg "PART" "part" := ⟨_, PySem.W.mg_of X G g_PART⟩
  have c_NEED : GlS mg "NEED" "need" := ⟨_, PySem.W.mg_of X G g_NEED⟩
  have c_STEP : GlS mg "STEP" "step" := ⟨_, PySem.W.mg_of X G g_STEP⟩
  have c_FIGURES : GlS mg "FIGURES" figs := ⟨_, PySem.W.mg_of X G g_FIGURES⟩
  have mC_BadParts := PySem.W.mg_of X G aC_BadParts
  have gl_BadParts : GlV mg "BadParts" (.ref C_BadParts) := ⟨_, mC_BadParts, rfl⟩
  have mC_BadPart := PySem.W.mg_of X G aC_BadPart
  have gl_BadPart : GlV mg "BadPart" (.ref C_BadPart) := ⟨_, mC_BadPart, rfl⟩
  have mC_BadCount := PySem.W.mg_of X G aC_BadCount
  have gl_BadCount : GlV mg "BadCount" (.ref C_BadCount) := ⟨_, mC_BadCount, rfl⟩
  have mC_Lacks := PySem.W.mg_of X G aC_Lacks
  have gl_Lacks : GlV mg "Lacks" (.ref C_Lacks) := ⟨_, mC_Lacks, rfl⟩
  have mC_BadPiece := PySem.W.mg_of X G aC_BadPiece
  have gl_BadPiece : GlV mg "BadPiece" (.ref C_BadPiece) := ⟨_, mC_BadPiece, rfl⟩
  have mC_BadLot := PySem.W.mg_of X G aC_BadLot
  have gl_BadLot : GlV mg "BadLot" (.ref C_BadLot) := ⟨_, mC_BadLot, rfl⟩
  have mC_BadText := PySem.W.mg_of X G aC_BadText
  have gl_BadText : GlV mg "BadText" (.ref C_BadText) := ⟨_, mC_BadText, rfl⟩
  have mC_KinError := PySem.W.mg_of X G aC_KinError
  have gl_KinError : GlV mg "KinError" (.ref C_KinError) := ⟨_, mC_KinError, rfl⟩
  have EB : ExBase K C_KinError (.type "type") := ⟨s_KE, r_KE, v_KE⟩
  have ec_BadParts : ExcC K C_BadParts := ⟨hg_BadParts, hk_BadParts, ex_BadParts, hd_BadParts, ha_BadParts, xn, xt, hm_BadParts⟩
  have kd_BadParts : KndD K ⟨C_BadPart, C_BadCount, C_Lacks, C_BadPiece, C_BadLot, C_BadParts, C_BadText, C_KinError⟩ 0 := ⟨ec_BadParts, em_BadParts, k0_BadParts, k1_BadParts, k2_BadParts, k3_BadParts, k4_BadParts, k5_BadParts, k6_BadParts, kv_BadParts⟩
  have kf_BadParts : KndF K ⟨C_BadPart, C_BadCount, C_Lacks, C_BadPiece, C_BadLot, C_BadParts, C_BadText, C_KinError⟩ 0 "at" := ⟨kd_BadParts, ⟨hg_BadParts, hk_BadParts, ex_BadParts, hd_BadParts⟩, nf_BadParts⟩
  have ox_BadParts : OexC K C_BadParts := ⟨⟨_, _, _, _, _, _, _, _, _, _, _, _, _, _, _, xl_BadParts, xr_BadParts⟩, sa_BadParts, ex_BadParts, ty_BadParts, kp_BadParts⟩
  have F_BadParts___init__ := fun_mk (st := s_BadParts___init__) l_BadParts___init__ c_BadParts___init__ k_BadParts___init__
  have ec_BadText : ExcC K C_BadText := ⟨hg_BadText, hk_BadText, ex_BadText, hd_BadText, ha_BadText, xn, xt, hm_BadText⟩
  have kd_BadText : KndD K ⟨C_BadPart, C_BadCount, C_Lacks, C_BadPiece, C_BadLot, C_BadParts, C_BadText, C_KinError⟩ 6 := ⟨ec_BadText, em_BadText, k0_BadText, k1_BadText, k2_BadText, k3_BadText, k4_BadText, k5_BadText, k6_BadText, kv_BadText⟩
  have kf_BadText : KndF K ⟨C_BadPart, C_BadCount, C_Lacks, C_BadPiece, C_BadLot, C_BadParts, C_BadText, C_KinError⟩ 6 "row" := ⟨kd_BadText, ⟨hg_BadText, hk_BadText, ex_BadText, hd_BadText⟩, nf_BadText⟩
  have ox_BadText : OexC K C_BadText := ⟨⟨_, _, _, _, _, _, _, _, _, _, _, _, _, _, _, xl_BadText, xr_BadText⟩, sa_BadText, ex_BadText, ty_BadText, kp_BadText⟩
  have F_BadText___init__ := fun_mk (st := s_BadText___init__) l_BadText___init__ c_BadText___init__ k_BadText___init__
  have n_ValueError := PySem.W.mg_none_of X G z_ValueError
  have n_isinstance := PySem.W.mg_none_of X G z_isinstance
  have n_list := PySem.W.mg_none_of X G z_list
  have n_max := PySem.W.mg_none_of X G z_max
  have n_len := PySem.W.mg_none_of X G z_len
  have n_all := PySem.W.mg_none_of X G z_all
  have n_set := PySem.W.mg_none_of X G z_set
  have n_enumerate := PySem.W.mg_none_of X G z_enumerate
  have n_tuple := PySem.W.mg_none_of X G z_tuple
  have n_sum := PySem.W.mg_none_of X G z_sum
  have n_range := PySem.W.mg_none_of X G z_range
  have n_str := PySem.W.mg_none_of X G z_str
  have n_int := PySem.W.mg_none_of X G z_int
  refine ⟨PySem.W.fnOf "law" "law" (defArgs s_law) (defBody s_law) (defScope s_law) .none kV_law dc_law pm_law an_law (.ref ca_law) ct_law, [(ca_law, (ptIn K "law"))], spLaw K (ptIn K "law"), fun p hp => ?_, fun p hp => ?_, fun p hp => ?_, fun s v => .of_eq rfl, fun H a ns hlen hbits hT hS => ⟨a, ns, rfl, hS, hlen, hT _ (.head _), fun _ => rfl⟩, fun base _ _ TBs => ?_⟩
  · simp only [List.mem_cons, List.not_mem_nil, or_false] at hp
    rcases hp with rfl
    · exact (TT _ (.head _) _ _ tb_law).2
  · simp only [List.mem_cons, List.not_mem_nil, or_false] at hp
    rcases hp with rfl
    · exact nt_law
  · simp only [List.mem_cons, List.not_mem_nil, or_false] at hp
    rcases hp with rfl
    · exact (TT _ (.head _) _ _ tb_law).1
  have TB_law := TBs _ (.head _)
  have X_BadParts : ExK l.prog w K mg base "BadParts" C_BadParts "at" := ⟨ox_BadParts, mC_BadParts, _, _, _, oki_BadParts F_BadParts___init__ mC_KinError EB ox_BadParts nf_BadParts, a_BadParts___init__, beq_iff_eq.mp i_BadParts___init__, kbn1 fun _ _ => rfl⟩
  have X_BadText : ExK l.prog w K mg base "BadText" C_BadText "row" := ⟨ox_BadText, mC_BadText, _, _, _, oki_BadText F_BadText___init__ mC_KinError EB ox_BadText nf_BadText, a_BadText___init__, beq_iff_eq.mp i_BadText___init__, kbn1 fun _ _ => rfl⟩
  have k0 := kf_BadParts
  have k6 := kf_BadText
  have KG : KindG K mg ⟨C_BadPart, C_BadCount, C_Lacks, C_BadPiece, C_BadLot, C_BadParts, C_BadText, C_KinError⟩ := ⟨⟨_, _, F__law_kind, m__law_kind, (F__law_kind.binds (ps := ["_law_call"]) fun _ _ _ _ _ _ us hl => match us, hl with | [_], _ => rfl)⟩, n_isinstance, n_ValueError, mC_KinError, gl_BadParts, gl_BadPart, gl_BadCount, gl_Lacks, gl_BadPiece, gl_BadLot, gl_BadText⟩
  have c_KinError : ∃ u, mg "KinError" = some u := ⟨_, mC_KinError⟩
  have G__law_mix : FnG l.prog w K mg base 1 "_law_mix" ["_law_script", "_law_seed"] (spMix K) := ⟨_, _, ok__law_mix F__law_mix n_list, m__law_mix, k__law_mix, (F__law_mix.binds (ps := ["_law_script", "_law_seed"]) fun _ _ _ _ _ _ us hl => match us, hl with | [_, _], _ => rfl)⟩
  have G__law_next : FnG l.prog w K mg base 1 "_law_next" ["_law_h", "_law_many"] spNext := ⟨_, _, ok__law_next F__law_next n_max n_len, m__law_next, k__law_next, (F__law_next.binds (ps := ["_law_h", "_law_many"]) fun _ _ _ _ _ _ us hl => match us, hl with | [_, _], _ => rfl)⟩
  have G_is_name : FnG l.prog w K mg base 1 "is_name" ["word"] spIsName := ⟨_, _, ok_is_name F_is_name n_len n_all c_MOST_SIGNS c_LETTERS, m_is_name, k_is_name, (F_is_name.binds (ps := ["word"]) fun _ _ _ _ _ _ us hl => match us, hl with | [_], _ => rfl)⟩
  have G_is_row : MtG l.prog w K mg base 2 C_Parts "is_row" ["self", "row"] (spIsRow K C_Parts) := ⟨_, _, ok_is_row F_Parts_is_row G_is_name cl_Parts n_Parts_rows n_len n_all n_set c_MOST_LOT c_MOST_LEAD c_MOST_NEED c_MOST_STEPS c_MACHINES c_MOST_MINUTES, ⟨a_Parts_is_row, i_Parts_is_row, k_Parts_is_row⟩, (F_Parts_is_row.binds (ps := ["self", "row"]) fun _ _ _ _ _ _ us hl => match us, hl with | [_, _], _ => rfl), cl_Parts⟩
  have G_led_to : MtG l.prog w K mg base 1 C_Parts "led_to" ["self", "needs"] (spLedTo K C_Parts) := ⟨_, _, ok_led_to F_Parts_led_to cl_Parts n_Parts_rows n_Parts_led, ⟨a_Parts_led_to, i_Parts_led_to, k_Parts_led_to⟩, (F_Parts_led_to.binds (ps := ["self", "needs"]) fun _ _ _ _ _ _ us hl => match us, hl with | [_, _], _ => rfl), cl_Parts⟩
  have G_Parts : MkG l.prog w K mg base 3 C_Parts "Parts" ["self", "told"] (spPInit K C_Parts) := ⟨_, _, ok_parts_init F_Parts___init__ G_is_row G_led_to cl_Parts n_Parts_rows n_Parts_led n_enumerate n_tuple n_sum c_MOST_PARTS c_MOST_LED, ⟨mk_Parts, a_Parts___init__, i_Parts___init__, kc_Parts⟩, mC_Parts, (F_Parts___init__.binds (ps := ["self", "told"]) fun _ _ _ _ _ _ us hl => match us, hl with | [_, _], _ => rfl)⟩
  have G_led : ∀ n, FnG l.prog w K mg base n "_law_led" ["_law_rows", "_law_needs"] (spLL K n) := fun n => by
    induction n with
    | zero => exact ⟨_, _, ok__law_led0, m__law_led, k__law_led, (F__law_led.binds (ps := ["_law_rows", "_law_needs"]) fun _ _ _ _ _ _ us hl => match us, hl with | [_, _], _ => rfl)⟩
    | succ n ih => exact ⟨_, _, ok__law_ledS F__law_led ih, m__law_led, k__law_led, (F__law_led.binds (ps := ["_law_rows", "_law_needs"]) fun _ _ _ _ _ _ us hl => match us, hl with | [_, _], _ => rfl)⟩
  have G__law_led := G_led 13
  have G__law_parts : FnG l.prog w K mg base 14 "_law_parts" ["_law_h", "_law_most"] (spLParts K) := ⟨_, _, ok__law_parts F__law_parts G__law_next G__law_led n_range n_tuple n_sum, m__law_parts, k__law_parts, (F__law_parts.binds (ps := ["_law_h", "_law_most"]) fun _ _ _ _ _ _ us hl => match us, hl with | [_, _], _ => rfl)⟩
  have G_written : FnG l.prog w K mg base 5 "written" ["parts"] (spWritten K) := ⟨_, _, ok_written F_written G_Parts n_str c_PART c_NEED c_STEP, m_written, k_written, (F_written.binds (ps := ["parts"]) fun _ _ _ _ _ _ us hl => match us, hl with | [_], _ => rfl)⟩
  have G_number_in : FnG l.prog w K mg base 1 "number_in" ["word"] spNumberIn := ⟨_, _, ok_number_in F_number_in n_len n_int c_FIGURES, m_number_in, k_number_in, (F_number_in.binds (ps := ["word"]) fun _ _ _ _ _ _ us hl => match us, hl with | [_], _ => rfl)⟩
  have G_Reader : MkG l.prog w K mg base 1 C_Reader "Reader" ["self"] (spRInit C_Reader) := ⟨_, _, ok_reader_init F_Reader___init__ cl_Reader n_Reader_rows, ⟨mk_Reader, a_Reader___init__, i_Reader___init__, kc_Reader⟩, mC_Reader, (F_Reader___init__.binds (ps := ["self"]) fun _ _ _ _ _ _ us hl => match us, hl with | [_], _ => rfl)⟩
  have GB_is_row : MtG l.prog w K mg base 2 C_Parts "is_row" ["self", "row"] (fun vs H Q E => spIsRow K C_Parts vs H Q E ∨ spIsRowN K C_Parts vs H Q E) := ⟨_, _, FnOk.orK (ok_is_row F_Parts_is_row G_is_name cl_Parts n_Parts_rows n_len n_all n_set c_MOST_LOT c_MOST_LEAD c_MOST_NEED c_MOST_STEPS c_MACHINES c_MOST_MINUTES) (ok_is_rowN F_Parts_is_row G_is_name cl_Parts n_Parts_rows n_len n_all n_set c_MOST_LOT c_MOST_LEAD c_MOST_NEED c_MOST_STEPS c_MACHINES c_MOST_MINUTES) (Nat.le_refl _), ⟨a_Parts_is_row, i_Parts_is_row, k_Parts_is_row⟩, (F_Parts_is_row.binds (ps := ["self", "row"]) fun _ _ _ _ _ _ us hl => match us, hl with | [_, _], _ => rfl), cl_Parts⟩
  have GX_Parts : MkGX l.prog w K mg base 3 C_Parts "Parts" ["self", "told"] (spPInitB K ⟨C_BadPart, C_BadCount, C_Lacks, C_BadPiece, C_BadLot, C_BadParts, C_BadText, C_KinError⟩ C_Parts) := ⟨_, _, FnOk.eitherX (ok_parts_init F_Parts___init__ G_is_row G_led_to cl_Parts n_Parts_rows n_Parts_led n_enumerate n_tuple n_sum c_MOST_PARTS c_MOST_LED) (okR_parts_init (X := ⟨C_BadPart, C_BadCount, C_Lacks, C_BadPiece, C_BadLot, C_BadParts, C_BadText, C_KinError⟩) F_Parts___init__ GB_is_row G_led_to cl_Parts n_Parts_rows n_Parts_led n_enumerate n_tuple n_sum c_MOST_PARTS c_MOST_LED X_BadParts) (Nat.le_refl _), ⟨mk_Parts, a_Parts___init__, i_Parts___init__, kc_Parts⟩, mC_Parts, (F_Parts___init__.binds (ps := ["self", "told"]) fun _ _ _ _ _ _ us hl => match us, hl with | [_, _], _ => rfl)⟩
  have G_number_inX : FnG l.prog w K mg base 1 "number_in" ["word"] spNumX := ⟨_, _, ok_number_inX F_number_in n_len n_int c_FIGURES, m_number_in, k_number_in, (F_number_in.binds (ps := ["word"]) fun _ _ _ _ _ _ us hl => match us, hl with | [_], _ => rfl)⟩
  have G__law_is_number : FnG l.prog w K mg base 1 "_law_is_number" ["_law_word"] spLNum := ⟨_, _, ok__law_is_number F__law_is_number n_len, m__law_is_number, k__law_is_number, (F__law_is_number.binds (ps := ["_law_word"]) fun _ _ _ _ _ _ us hl => match us, hl with | [_], _ => rfl)⟩
  have G__law_is_name : FnG l.prog w K mg base 1 "_law_is_name" ["_law_word"] spLName := ⟨_, _, ok__law_is_name F__law_is_name n_len, m__law_is_name, k__law_is_name, (F__law_is_name.binds (ps := ["_law_word"]) fun _ _ _ _ _ _ us hl => match us, hl with | [_], _ => rfl)⟩
  have GB_does_take : MtG l.prog w K mg base 2 C_Reader "does_take" ["self", "words"] (spTakeB K C_Reader) := ⟨_, _, okOr (okOr (ok_take_part F_Reader_does_take G_is_name G_number_in cl_Reader n_Reader_rows n_len c_PART c_NEED c_STEP) (okOr (ok_take_need F_Reader_does_take G_is_name G_number_in cl_Reader n_Reader_rows n_len c_PART c_NEED c_STEP) (ok_take_step F_Reader_does_take G_is_name G_number_in cl_Reader n_Reader_rows n_len c_PART c_NEED c_STEP))) (ok_take_no F_Reader_does_take G_is_name G_number_inX cl_Reader n_Reader_rows n_len c_PART c_NEED c_STEP), ⟨a_Reader_does_take, i_Reader_does_take, k_Reader_does_take⟩, (F_Reader_does_take.binds (ps := ["self", "words"]) fun _ _ _ _ _ _ us hl => match us, hl with | [_, _], _ => rfl), cl_Reader⟩
  have GX_read := (⟨_, _, ok_readX (X := ⟨C_BadPart, C_BadCount, C_Lacks, C_BadPiece, C_BadLot, C_BadParts, C_BadText, C_KinError⟩) F_read GX_Parts G_Reader GB_does_take X_BadText cl_Reader n_Reader_rows n_enumerate n_tuple, m_read, k_read, (F_read.binds (ps := ["text"]) fun _ _ _ _ _ _ us hl => match us, hl with | [_], _ => rfl)⟩ : FnGX l.prog w K mg base 5 "read" ["text"] _)
  have G__law_first : FnG l.prog w K mg base 2 "_law_first" ["_law_text"] spFirst := ⟨_, _, ok__law_first F__law_first G__law_is_number G__law_is_name n_len n_range, m__law_first, k__law_first, (F__law_first.binds (ps := ["_law_text"]) fun _ _ _ _ _ _ us hl => match us, hl with | [_], _ => rfl)⟩
  exact ok_law (X := ⟨C_BadPart, C_BadCount, C_Lacks, C_BadPiece, C_BadLot, C_BadParts, C_BadText, C_KinError⟩) F_law TB_law KG k0 k6 G__law_mix G__law_next G__law_parts G_written GX_read G__law_first n_range n_len
end LW

open PySem PySem.W PyProof.Rows
set_option maxRecDepth 100000 in
set_option maxHeartbeats 0 in
theorem PySem.Challenge.cw_partkin_k28_texts_of_no_book_holds : PySem.Challenge.rw_partkin_k28_texts_of_no_book.Holds := by
  w_on; o_law; k_head; (case hw => w_witness2)
  k_fill
  refine WK.walk_ofTabs (l := PySem.Challenge.rw_partkin_k28_texts_of_no_book) (n := 63) (k := 15) (x := "_law_script") ["law"] rfl (by decide) rfl ⟨rfl, by decide, by decide⟩ (by decide +kernel) (fun w h Y => PySem.W.km_in_of Y) ?F
  case F =>
    intro w mg fa h KX G hmg TT
    refine' LW.all_mk KX G hmg ?a__law_mix ?l__law_mix ?c__law_mix ?k__law_mix ?a__law_next ?l__law_next ?c__law_next ?k__law_next ?a_is_name ?l_is_name ?c_is_name ?k_is_name ?a__law_led ?l__law_led ?c__law_led ?k__law_led ?a__law_parts ?l__law_parts ?c__law_parts ?k__law_parts ?a_written ?l_written ?c_written ?k_written ?a_number_in ?l_number_in ?c_number_in ?k_number_in ?a__law_is_number ?l__law_is_number ?c__law_is_number ?k__law_is_number ?a__law_is_name ?l__law_is_name ?c__law_is_name ?k__law_is_name ?a_read ?l_read ?c_read ?k_read ?a__law_first ?l__law_first ?c__law_first ?k__law_first ?a_law ?l_law ?c_law ?tb_law ?nt_law ?k_law ?a__law_kind ?l__law_kind ?c__law_kind ?k__law_kind ?aC_Parts ?a_Parts_is_row ?i_Parts_is_row ?l_Parts_is_row ?c_Parts_is_row ?k_Parts_is_row ?a_Parts_led_to ?i_Parts_led_to ?l_Parts_led_to ?c_Parts_led_to ?k_Parts_led_to ?a_Parts___init__ ?i_Parts___init__ ?l_Parts___init__ ?c_Parts___init__ ?k_Parts___init__ ?pg_Parts ?hd_Parts ?po_Parts ?sa_Parts ?mk_Parts ?kc_Parts ?n_Parts_rows ?n_Parts_led ?aC_Reader ?a_Reader___init__ ?i_Reader___init__ ?l_Reader___init__ ?c_Reader___init__ ?k_Reader___init__ ?a_Reader_does_take ?i_Reader_does_take ?l_Reader_does_take ?c_Reader_does_take ?k_Reader_does_take ?pg_Reader ?hd_Reader ?po_Reader ?sa_Reader ?mk_Reader ?kc_Reader ?n_Reader_rows ?g_MOST_SIGNS ?g_MOST_LOT ?g_MOST_LEAD ?g_MOST_NEED ?g_MOST_STEPS ?g_MACHINES ?g_MOST_MINUTES ?g_MOST_PARTS ?g_MOST_LED ?g_LETTERS ?g_PART ?g_NEED ?g_STEP ?g_FIGURES ?aC_BadParts ?aC_BadPart ?aC_BadCount ?aC_Lacks ?aC_BadPiece ?aC_BadLot ?aC_BadText ?aC_KinError ?s_KE ?r_KE ?v_KE ?xn ?xt ?ex_BadParts ?ty_BadParts ?kp_BadParts ?hg_BadParts ?hk_BadParts ?hd_BadParts ?ha_BadParts ?hm_BadParts ?em_BadParts ?k0_BadParts ?k1_BadParts ?k2_BadParts ?k3_BadParts ?k4_BadParts ?k5_BadParts ?k6_BadParts ?kv_BadParts ?nf_BadParts ?xl_BadParts ?xr_BadParts ?sa_BadParts ?a_BadParts___init__ ?i_BadParts___init__ ?l_BadParts___init__ ?c_BadParts___init__ ?k_BadParts___init__ ?ex_BadText ?ty_BadText ?kp_BadText ?hg_BadText ?hk_BadText ?hd_BadText ?ha_BadText ?hm_BadText ?em_BadText ?k0_BadText ?k1_BadText ?k2_BadText ?k3_BadText ?k4_BadText ?k5_BadText ?k6_BadText ?kv_BadText ?nf_BadText ?xl_BadText ?xr_BadText ?sa_BadText ?a_BadText___init__ ?i_BadText___init__ ?l_BadText___init__ ?c_BadText___init__ ?k_BadText___init__ ?z_ValueError ?z_isinstance ?z_list ?z_max ?z_len ?z_all ?z_set ?z_enumerate ?z_tuple ?z_sum ?z_range ?z_str ?z_int TT
    (case a__law_mix => k_is)
    (case l__law_mix => k_is)
    (case c__law_mix => k_is)
    (case k__law_mix => k_is)
    (case a__law_next => k_is)
    (case l__law_next => k_is)
    (case c__law_next => k_is)
    (case k__law_next => k_is)
    (case a_is_name => k_is)
    (case l_is_name => k_is)
    (case c_is_name => k_is)
    (case k_is_name => k_is)
    (case a__law_led => k_is)
    (case l__law_led => k_is)
    (case c__law_led => k_is)
    (case k__law_led => k_is)
    (case a__law_parts => k_is)
    (case l__law_parts => k_is)
    (case c__law_parts => k_is)
    (case k__law_parts => k_is)
    (case a_written => k_is)
    (case l_written => k_is)
    (case c_written => k_is)
    (case k_written => k_is)
    (case a_number_in => k_is)
    (case l_number_in => k_is)
    (case c_number_in => k_is)
    (case k_number_in => k_is)
    (case a__law_is_number => k_is)
    (case l__law_is_number => k_is)
    (case c__law_is_number => k_is)
    (case k__law_is_number => k_is)
    (case a__law_is_name => k_is)
    (case l__law_is_name => k_is)
    (case c__law_is_name => k_is)
    (case k__law_is_name => k_is)
    (case a_read => k_is)
    (case l_read => k_is)
    (case c_read => k_is)
    (case k_read => k_is)
    (case a__law_first => k_is)
    (case l__law_first => k_is)
    (case c__law_first => k_is)
    (case k__law_first => k_is)
    (case a_law => k_is)
    (case l_law => k_is)
    (case c_law => k_is)
    (case tb_law => kernel_rfl)
    (case nt_law => kernel_rfl)
    (case k_law => k_is)
    (case a__law_kind => k_is)
    (case l__law_kind => k_is)
    (case c__law_kind => k_is)
    (case k__law_kind => k_is)
    (case aC_Parts => k_is)
    (case a_Parts_is_row => k_is)
    (case i_Parts_is_row => k_is)
    (case l_Parts_is_row => k_is)
    (case c_Parts_is_row => k_is)
    (case k_Parts_is_row => k_is)
    (case a_Parts_led_to => k_is)
    (case i_Parts_led_to => k_is)
    (case l_Parts_led_to => k_is)
    (case c_Parts_led_to => k_is)
    (case k_Parts_led_to => k_is)
    (case a_Parts___init__ => k_is)
    (case i_Parts___init__ => k_is)
    (case l_Parts___init__ => k_is)
    (case c_Parts___init__ => k_is)
    (case k_Parts___init__ => k_is)
    (case pg_Parts => k_is)
    (case hd_Parts => k_is)
    (case po_Parts => k_is)
    (case sa_Parts => k_is)
    (case mk_Parts => k_is)
    (case kc_Parts => k_is)
    (case n_Parts_rows => k_is)
    (case n_Parts_led => k_is)
    (case aC_Reader => k_is)
    (case a_Reader___init__ => k_is)
    (case i_Reader___init__ => k_is)
    (case l_Reader___init__ => k_is)
    (case c_Reader___init__ => k_is)
    (case k_Reader___init__ => k_is)
    (case a_Reader_does_take => k_is)
    (case i_Reader_does_take => k_is)
    (case l_Reader_does_take => k_is)
    (case c_Reader_does_take => k_is)
    (case k_Reader_does_take => k_is)
    (case pg_Reader => k_is)
    (case hd_Reader => k_is)
    (case po_Reader => k_is)
    (case sa_Reader => k_is)
    (case mk_Reader => k_is)
    (case kc_Reader => k_is)
    (case n_Reader_rows => k_is)
    (case g_MOST_SIGNS => k_is)
    (case g_MOST_LOT => k_is)
    (case g_MOST_LEAD => k_is)
    (case g_MOST_NEED => k_is)
    (case g_MOST_STEPS => k_is)
    (case g_MACHINES => k_is)
    (case g_MOST_MINUTES => k_is)
    (case g_MOST_PARTS => k_is)
    (case g_MOST_LED => k_is)
    (case g_LETTERS => k_is)
    (case g_PART => k_is)
    (case g_NEED => k_is)
    (case g_STEP => k_is)
    (case g_FIGURES => k_is)
    (case aC_BadParts => k_is)
    (case aC_BadPart => k_is)
    (case aC_BadCount => k_is)
    (case aC_Lacks => k_is)
    (case aC_BadPiece => k_is)
    (case aC_BadLot => k_is)
    (case aC_BadText => k_is)
    (case aC_KinError => k_is)
    (case s_KE => k_is)
    (case r_KE => k_is)
    (case v_KE => k_is)
    (case xn => k_is)
    (case xt => k_is)
    (case ex_BadParts => k_is)
    (case ty_BadParts => k_is)
    (case kp_BadParts => k_is)
    (case hg_BadParts => k_is)
    (case hk_BadParts => k_is)
    (case hd_BadParts => k_is)
    (case ha_BadParts => k_is)
    (case hm_BadParts => k_is)
    (case em_BadParts => kernel_rfl)
    (case k0_BadParts => kernel_rfl)
    (case k1_BadParts => kernel_rfl)
    (case k2_BadParts => kernel_rfl)
    (case k3_BadParts => kernel_rfl)
    (case k4_BadParts => kernel_rfl)
    (case k5_BadParts => kernel_rfl)
    (case k6_BadParts => kernel_rfl)
    (case kv_BadParts => kernel_rfl)
    (case nf_BadParts => k_is)
    (case xl_BadParts => k_is)
    (case xr_BadParts => decide +kernel)
    (case sa_BadParts => k_is)
    (case a_BadParts___init__ => k_is)
    (case i_BadParts___init__ => k_is)
    (case l_BadParts___init__ => k_is)
    (case c_BadParts___init__ => k_is)
    (case k_BadParts___init__ => k_is)
    (case ex_BadText => k_is)
    (case ty_BadText => k_is)
    (case kp_BadText => k_is)
    (case hg_BadText => k_is)
    (case hk_BadText => k_is)
    (case hd_BadText => k_is)
    (case ha_BadText => k_is)
    (case hm_BadText => k_is)
    (case em_BadText => kernel_rfl)
    (case k0_BadText => kernel_rfl)
    (case k1_BadText => kernel_rfl)
    (case k2_BadText => kernel_rfl)
    (case k3_BadText => kernel_rfl)
    (case k4_BadText => kernel_rfl)
    (case k5_BadText => kernel_rfl)
    (case k6_BadText => kernel_rfl)
    (case kv_BadText => kernel_rfl)
    (case nf_BadText => k_is)
    (case xl_BadText => k_is)
    (case xr_BadText => decide +kernel)
    (case sa_BadText => k_is)
    (case a_BadText___init__ => k_is)
    (case i_BadText___init__ => k_is)
    (case l_BadText___init__ => k_is)
    (case c_BadText___init__ => k_is)
    (case k_BadText___init__ => k_is)
    (case z_ValueError => k_is)
    (case z_isinstance => k_is)
    (case z_list => k_is)
    (case z_max => k_is)
    (case z_len => k_is)
    (case z_all => k_is)
    (case z_set => k_is)
    (case z_enumerate => k_is)
    (case z_tuple => k_is)
    (case z_sum => k_is)
    (case z_range => k_is)
    (case z_str => k_is)
    (case z_int => k_is)
