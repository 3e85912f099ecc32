import PyProof.Rows.All
import KE.DataMinMax
import KE.DataMinKey
import HandS.TupLen
import HandS.TupSets
import Wide.All
import OpenK.AllK
import Wide.FinOn
import HandS.ForMost
import HandS.ForExc
import HandS.DictComp
import HandS.IsInst
import HandS.Walk
import HandS.StrMore
import HandS.SetKeys
import HandS.Zip
import HandS.TryOnly
import HandS.Style
import HandS.Defaults
import HandS.Sort
import HandS.SortRule
import HandS.SortInts
import HandS.DictTup
import KE.GoesEnum
import KE.KDictWalk
import HandS.SetFor
import HandS.Strs
import HandS.SetBool
import HandS.Conv
import HandS.ExcInit
import HandS.ExcIs
import HandS.ExcField
import HandS.MakeKwOnly
import HandS.EndTab
import KE.KExcIs
import KE.DataFind
import PySem.Challenge.RW_partkin_k23_when_steps_are_done
set_option Elab.async false
set_option maxRecDepth 100000
set_option linter.all false
set_option maxHeartbeats 8000000

/-! the layer of weakest readings, and of what a heap is known to hold -/
namespace WK
open PySem PySem.Spec PyProof.Rows L2

/-! ### weakest readings, the same in a def and in a comprehension's block -/
/-- what contexts of one def have alike -/
def Al (P : Program) (w : World) (K : PySem.W.Frag) (X : Cx) : Prop := X.prog = P ∧ X.w = w ∧ X.K = K ∧ X.calm = true ∧ X.A.units + 100 < cLine
theorem al_of {P : Program} {w : World} {K : PySem.W.Frag} {X : Cx} {k : Nat} (hr : Room k X.A) (h1 : X.prog = P := by rfl) (h2 : X.w = w := by rfl) (h3 : X.K = K := by rfl) (h4 : X.calm = true := by rfl) : Al P w K X :=
  ⟨h1, h2, h3, h4, by have := hr.un; omega⟩
section
variable (P : Program) (w : World) (K : PySem.W.Frag)
def OpU (f : Value → Value → Sem Value) : R2 := fun x y H Q => ∀ X pins s σ v u, Al P w K X → Inv X pins σ H s → RelV x v → RelV y u → wpAny (model X.prog X.w) X.A (f v u) (EP X pins σ Q) X.xe s
def IxU : R2 := fun x y H Q => ∀ (value slice : Expr) X pins s σ v u, Al P w K X → Inv X pins σ H s → RelV x v → RelV y u → subscripted slice false v u = operate [v, u] (getItem v u) →
  wpAny (model X.prog X.w) X.A (subscriptTail value slice v u) (EP X pins σ Q) X.xe s
def GetU : V → V → Hp → VK → Prop := fun x y H Q => ∀ X pins s σ v u, Al P w K X → Inv X pins σ H s → RelV x v → RelV y u → wpAny (model X.prog X.w) X.A (getItem v u) (EP X pins σ Q) X.xe s
def SetU : TSet := fun o i v H Q => ∀ X pins s σ ov iv u, Al P w K X → Inv X pins σ H s → RelV o ov → RelV i iv → RelV v u → wpAny (model X.prog X.w) X.A (setItem ov iv u) (fun _ s' => ∃ H', Inv X pins σ H' s' ∧ Q H') X.xe s
def IpU (op : Operator) : TIp := fun x y H Q => ∀ X pins s σ v u, Al P w K X → Inv X pins σ H s → RelV x v → RelV y u → wpAny (model X.prog X.w) X.A (inplaceOp op v u) (EP X pins σ Q) X.xe s
def CallU (f : Value) : List V → Hp → VK → Prop := fun xs H Q => ∀ X pins s σ us, Al P w K X → Inv X pins σ H s → Vals xs us → wpAny (model X.prog X.w) X.A (call f us) (EP X pins σ Q) X.xe s
def MetU (id : String) : V → List V → Hp → VK → Prop := fun x xs H Q => ∀ X pins s σ v us, Al P w K X → Inv X pins σ H s → RelV x v → Vals xs us → wpAny (model X.prog X.w) X.A (call (.builtin id) (v :: us)) (EP X pins σ Q) X.xe s
def TruU : V → Hp → (Bool → Hp → Prop) → Prop := fun x H Q => ∀ X pins s σ v, Al P w K X → Inv X pins σ H s → RelV x v → wpAny (model X.prog X.w) X.A (truthy v) (TP X pins σ Q) X.xe s
def SlU : V → Option Int → Option Int → Hp → VK → Prop := fun x lo hi H Q => ∀ X pins s σ v vl vu sl, Al P w K X → Inv X pins σ H s → RelV x v → s.heap.IsSliceOf sl vl vu .none → IsPart vl lo → IsPart vu hi →
    ∃ T id, typeLookup (.type T) "__getitem__" = pure (some (.builtin id)) ∧ s.TypeIs v T ∧ wpAny (model X.prog X.w) X.A (getItem v (.ref sl)) (EP X pins σ Q) X.xe s
def ItU (tg : Expr) : V → Hp → (It → Hp → Prop) → Prop := fun x H R => ∀ X pins s σ v, Al P w K X → Inv X pins σ H s → RelV x v → wpAny (model X.prog X.w) X.A (pyIter v) (PIE X pins σ tg R) X.xe s
end
section
variable {P : Program} {w : World} {K : PySem.W.Frag} {X : Cx}
theorem opU {f} (al : Al P w K X) : OpR X f (OpU P w K f) := fun pins s σ H x y v u Q I r1 r2 h => h X pins s σ v u al I r1 r2
theorem ixU (al : Al P w K X) : IxR X (IxU P w K) := fun value slice pins s σ H x y v u Q I r1 r2 h hs => h value slice X pins s σ v u al I r1 r2 hs
theorem getU (al : Al P w K X) : PGet X (GetU P w K) := fun pins s σ H o i ov iv Q I r1 r2 h => h X pins s σ ov iv al I r1 r2
theorem setU (al : Al P w K X) : PSet X (SetU P w K) := fun pins s σ H o i v ov iv u Q I r1 r2 r3 h => h X pins s σ ov iv u al I r1 r2 r3
theorem ipU {op} (al : Al P w K X) : PIp X op (IpU P w K op) := fun pins s σ H x y v u Q I r1 r2 h => h X pins s σ v u al I r1 r2
theorem callU {f} (al : Al P w K X) : CallR X f (CallU P w K f) := fun pins s σ H xs us Q I r h => h X pins s σ us al I r
theorem metU {id} (al : Al P w K X) : MtR X id (MetU P w K id) := fun pins s σ H x xs v us Q I r rs h => h X pins s σ v us al I r rs
/-- what is walked, by its value -/
def iVal (P : Program) (w : World) (K : PySem.W.Frag) (tg : Expr) (te : TE) : TI := fun σ H R => te σ H fun v H1 => ItU P w K tg v H1 R
theorem pi_val {tg e : Expr} {te : TE} (al : Al P w K X) (he : PE X e te) : PI X tg e (iVal P w K tg te) := by
  refine ⟨fun pins s σ H R I h => ?_⟩
  exact thn (he.run pins s σ H _ I h) fun v s1 ⟨x, H1, I1, r1, q1⟩ => q1 X pins s1 σ v al I1 r1
section
variable {x y z : V} {H : Hp} {Q : VK} {xs : List V}
theorem OpU.of {f} {r : R2} (h : ∀ X, Al P w K X → OpR X f r) (k : r x y H Q) : OpU P w K f x y H Q := fun X pins s σ v u al I r1 r2 => h X al pins s σ H x y v u Q I r1 r2 k
theorem IxU.of {r : R2} (h : ∀ X, Al P w K X → IxR X r) (k : r x y H Q) : IxU P w K x y H Q := fun value slice X pins s σ v u al I r1 r2 hs => h X al value slice pins s σ H x y v u Q I r1 r2 k hs
theorem SetU.of {t : TSet} {Q : Hp → Prop} (h : ∀ X, Al P w K X → PSet X t) (k : t x y z H Q) : SetU P w K x y z H Q := fun X pins s σ ov iv u al I r1 r2 r3 => h X al pins s σ H x y z ov iv u Q I r1 r2 r3 k
theorem IpU.of {op} {t : TIp} (h : ∀ X, Al P w K X → PIp X op t) (k : t x y H Q) : IpU P w K op x y H Q := fun X pins s σ v u al I r1 r2 => h X al pins s σ H x y v u Q I r1 r2 k
theorem CallU.of {f} {r : List V → Hp → VK → Prop} (h : ∀ X, Al P w K X → CallR X f r) (k : r xs H Q) : CallU P w K f xs H Q := fun X pins s σ us al I r1 => h X al pins s σ H xs us Q I r1 k
theorem MetU.of {id} {r : V → List V → Hp → VK → Prop} (h : ∀ X, Al P w K X → MtR X id r) (k : r x xs H Q) : MetU P w K id x xs H Q := fun X pins s σ v us al I r1 rs => h X al pins s σ H x xs v us Q I r1 rs k
theorem TruU.of {r : V → Hp → (Bool → Hp → Prop) → Prop} {Q : Bool → Hp → Prop} (h : ∀ X, Al P w K X → TruR X r) (k : r x H Q) : TruU P w K x H Q := fun X pins s σ v al I r1 => h X al pins s σ H x v Q I r1 k
theorem SlU.of {r : V → Option Int → Option Int → Hp → VK → Prop} {lo hi : Option Int} (h : ∀ X, Al P w K X → SlR X r) (k : r x lo hi H Q) : SlU P w K x lo hi H Q :=
  fun X pins s σ v vl vu sl al I r1 h1 h2 h3 => h X al pins s σ H x v vl vu lo hi sl Q I r1 h1 h2 h3 k
theorem OpU.ofK {f} {r : PySem.W.Frag → R2} (h : ∀ X, Al P w K X → OpR X f (r X.K)) (k : r K x y H Q) : OpU P w K f x y H Q := .of (fun X al => by have := h X al; rw [al.2.2.1] at this; exact this) k
theorem IxU.ofK {r : PySem.W.Frag → R2} (h : ∀ X, Al P w K X → IxR X (r X.K)) (k : r K x y H Q) : IxU P w K x y H Q := .of (fun X al => by have := h X al; rw [al.2.2.1] at this; exact this) k
theorem CallU.ofK {f} {r : PySem.W.Frag → List V → Hp → VK → Prop} (h : ∀ X, Al P w K X → CallR X f (r X.K)) (k : r K xs H Q) : CallU P w K f xs H Q := .of (fun X al => by have := h X al; rw [al.2.2.1] at this; exact this) k
theorem MetU.ofK {id} {r : PySem.W.Frag → V → List V → Hp → VK → Prop} (h : ∀ X, Al P w K X → MtR X id (r X.K)) (k : r K x xs H Q) : MetU P w K id x xs H Q := .of (fun X al => by have := h X al; rw [al.2.2.1] at this; exact this) k
theorem SlU.ofK {r : PySem.W.Frag → V → Option Int → Option Int → Hp → VK → Prop} {lo hi : Option Int} (h : ∀ X, Al P w K X → SlR X (r X.K)) (k : r K x lo hi H Q) : SlU P w K x lo hi H Q := .of (fun X al => by have := h X al; rw [al.2.2.1] at this; exact this) k
theorem TruU.ofK {r : PySem.W.Frag → V → Hp → (Bool → Hp → Prop) → Prop} {Q : Bool → Hp → Prop} (h : ∀ X, Al P w K X → TruR X (r X.K)) (k : r K x H Q) : TruU P w K x H Q := .of (fun X al => by have := h X al; rw [al.2.2.1] at this; exact this) k
theorem ItU.list {tg : Expr} {a : Addr} {xs : List V} {R : It → Hp → Prop} (h : SqL K H a xs) (k : R (Itl K a) H) : ItU P w K tg (.ref a) H R := by
  intro X pins s σ v al I r
  obtain ⟨rfl, rfl, rfl, hc, hu⟩ := al
  cases r
  obtain ⟨its, rv, p, hz⟩ := I.list h
  refine wpAny_pyIter_list p.isList ?_
  refine ⟨s.heap.objs.size, [s.heap.objs.size], _, _, H, rfl, I.kept (t' := s.toks) fun b o e => Heap.get?_push_of_some _ e, turn_list a _, ⟨_, Heap.get?_push_size _ rfl, rfl, rfl⟩, fun b hb => ?_, k⟩
  have e : b = s.heap.objs.size := by simpa using hb
  subst e
  exact I.fpOk (Nat.le_refl _) (I.hok.fresh (Nat.le_refl _))
theorem ItU.tup {tg : Expr} {a : Addr} {xs : List V} {R : It → Hp → Prop} (h : SqT K H a xs) (k : R (Itt K a) H) : ItU P w K tg (.ref a) H R := by
  intro X pins s σ v al I r
  obtain ⟨rfl, rfl, rfl, hc, hu⟩ := al
  cases r
  obtain ⟨its, rv, p, hz⟩ := I.tuple h
  refine wpAny_pyIter_tuple (show s.heap.IsTuple a its.toArray from p) ?_
  refine ⟨s.heap.objs.size, [s.heap.objs.size], _, _, H, rfl, I.kept (t' := s.toks) fun b o e => Heap.get?_push_of_some _ e, turn_tuple a _, ⟨_, Heap.get?_push_size _ rfl, rfl, rfl⟩, fun b hb => ?_, k⟩
  have e : b = s.heap.objs.size := by simpa using hb
  subst e
  exact I.fpOk (Nat.le_refl _) (I.hok.fresh (Nat.le_refl _))
end
end
end WK
namespace WK
open PySem PySem.Spec PyProof.Rows L2
theorem pg_tupU (K : PySem.W.Frag) {X : Cx} {es : List Expr} {k : Nat} {t : TGs} {n : Nat} {pos : Pos} (h : PGs X es t) (hK : X.K = K := by rfl) (hc : X.calm = true := by rfl) (hn : (assignEach es X.env).length = n := by rfl) (hst : (assignEach es X.env).findIdx? (·.1) = none := by rfl) :
    PG X (.Tuple es k pos) (gTup K n t) := by
  subst hK
  exact pg_tup hc h hn hst
theorem pe_fldU (K : PySem.W.Frag) {X : Cx} {e : Expr} {f : Str} {ta : TE} {pos : Pos} (he : PE X e ta) (hb : attributeBase e f X.env (eval e X.env) = eval e X.env) (hK : X.K = K := by rfl) : PE X (.Attribute e f pos) (tFld K ta f) := by
  subst hK
  exact pe_fld he hb
end WK

namespace WK
open PySem PySem.Spec PyProof.Rows L2

/-! ### what a heap is known to hold: B what stays, L what is one's own -/
abbrev Ex (H H' : Hp) : Prop := ∀ a o, H a = some o → H' a = some o
theorem Ex.refl (H : Hp) : Ex H H := fun _ _ h => h
theorem Ex.trans {H H1 H2 : Hp} (a : Ex H H1) (b : Ex H1 H2) : Ex H H2 := fun x o h => b x o (a x o h)
theorem Ex.new {H : Hp} {p : Addr} {o : HO} (h : H p = none) : Ex H (upd H p o) := fun a u e => by
  rw [upd_ne (ne_of_none e h)]
  exact e
theorem Ex.rd {H H' : Hp} {a : Addr} {u : HO} (e : Ex H H') (h : Rd H a u) : Rd H' a u := by
  rcases h with h | ⟨o, h⟩
  · exact Or.inl (e a _ h)
  · exact Or.inr ⟨o, e a _ h⟩
theorem Ex.sqL {K : PySem.W.Frag} {H H' : Hp} {a : Addr} {xs : List V} (e : Ex H H') (h : SqL K H a xs) : SqL K H' a xs := by
  rcases h with h | h
  · exact Or.inl (e.rd h)
  · exact Or.inr h
theorem Ex.sqT {K : PySem.W.Frag} {H H' : Hp} {a : Addr} {xs : List V} (e : Ex H H') (h : SqT K H a xs) : SqT K H' a xs := by
  rcases h with h | h
  · exact Or.inl (e.rd h)
  · exact Or.inr h
theorem Ex.ap {H H' : Hp} {a : Addr} {o : HO} (e : Ex H H') (h : H a = some o) : H' a = some o := e a o h

abbrev Led := List (Addr × HO)
structure Ent where
  B : Hp
  H : Hp
  A : List Addr
/-- F: how it was at an entry, and which addresses of it may change -/
structure Ok (F : Ent) (B : Hp) (L : Led) (H : Hp) : Prop where
  ex : Ex B H
  nd : (L.map (·.1)).Nodup
  own : ∀ p ∈ L, H p.1 = some p.2 ∧ B p.1 = none
  ex0 : Ex F.B B
  keep : ∀ a o, F.H a = some o → a ∉ F.A → H a = some o
  kA : ∀ a ∈ F.A, ∃ o, H a = some o
  fB : ∀ a o, B a = some o → (∃ u, F.B a = some u) ∨ F.H a = none ∨ a ∈ F.A
  fL : ∀ p ∈ L, p.1 ∈ F.A ∨ F.H p.1 = none
section
variable {F : Ent} {B H : Hp} {L L1 L2 : Led} {p : Addr} {o o' : HO}
theorem Ok.start (h : Ex B H) (nd : (L.map (·.1)).Nodup) (own : ∀ p ∈ L, H p.1 = some p.2 ∧ B p.1 = none) : Ok ⟨B, H, L.map (·.1)⟩ B L H where
  ex := h
  nd := nd
  own := own
  ex0 := Ex.refl _
  keep := fun _ _ e _ => e
  kA := fun a ha => by
    obtain ⟨q, hq, rfl⟩ := List.mem_map.mp ha
    exact ⟨_, (own q hq).1⟩
  fB := fun _ _ e => .inl ⟨_, e⟩
  fL := fun q hq => .inl (List.mem_map.mpr ⟨q, hq, rfl⟩)
theorem Ok.start0 (h : Ex B H) : Ok ⟨B, H, []⟩ B [] H := Ok.start (L := []) h List.nodup_nil (fun _ z => nomatch z)
theorem Ok.again (S : Ok F B L H) : Ok ⟨B, H, L.map (·.1)⟩ B L H := Ok.start S.ex S.nd S.own
theorem Ok.fresh (S : Ok F B L H) (hp : H p = none) : F.H p = none ∧ B p = none ∧ p ∉ L.map (·.1) := by
  refine ⟨?_, ?_, fun z => ?_⟩
  · cases e : F.H p with
    | none => rfl
    | some u =>
      by_cases ha : p ∈ F.A
      · obtain ⟨w, hw⟩ := S.kA p ha
        rw [hp] at hw
        cases hw
      · have := S.keep p u e ha
        rw [hp] at this
        cases this
  · cases e : B p with
    | none => rfl
    | some u =>
      have := S.ex p u e
      rw [hp] at this
      cases this
  · obtain ⟨q, hq, rfl⟩ := List.mem_map.mp z
    have := (S.own q hq).1
    rw [hp] at this
    cases this
theorem Ok.newL (S : Ok F B L H) (hp : H p = none) : Ok F B ((p, o) :: L) (upd H p o) := by
  obtain ⟨f0, f1, f2⟩ := S.fresh hp
  have ne : ∀ {a u}, H a = some u → a ≠ p := fun e => ne_of_none e hp
  refine ⟨fun a u e => ?_, List.nodup_cons.mpr ⟨f2, S.nd⟩, fun q hq => ?_, S.ex0, fun a u e h => ?_, fun a h => ?_, S.fB, fun q hq => ?_⟩
  · rw [upd_ne (ne (S.ex a u e))]; exact S.ex a u e
  · rcases List.mem_cons.mp hq with rfl | hq
    · exact ⟨upd_same, f1⟩
    · obtain ⟨e1, e2⟩ := S.own q hq
      exact ⟨by rw [upd_ne (ne e1)]; exact e1, e2⟩
  · have := S.keep a u e h
    rw [upd_ne (ne this)]; exact this
  · obtain ⟨u, e⟩ := S.kA a h
    exact ⟨u, by rw [upd_ne (ne e)]; exact e⟩
  · rcases List.mem_cons.mp hq with rfl | hq
    · exact .inr f0
    · exact S.fL q hq
/-- a thing that nobody tells of -/
theorem Ok.junk (S : Ok F B L H) (hp : H p = none) : Ok F B L (upd H p o) := by
  have S1 : Ok F B ((p, o) :: L) (upd H p o) := S.newL hp
  exact ⟨S1.ex, (List.nodup_cons.mp S1.nd).2, fun q hq => S1.own q (List.mem_cons_of_mem _ hq), S1.ex0, S1.keep, S1.kA, S1.fB, fun q hq => S1.fL q (List.mem_cons_of_mem _ hq)⟩
theorem Ok.perm (S : Ok F B L H) (h : L.Perm L1) : Ok F B L1 H :=
  ⟨S.ex, (h.map _).nodup_iff.mp S.nd, fun q hq => S.own q (h.mem_iff.mpr hq), S.ex0, S.keep, S.kA, S.fB, fun q hq => S.fL q (h.mem_iff.mpr hq)⟩
/-- the first of one's own is let go: it stays as it is from now on -/
theorem Ok.freeze (S : Ok F B ((p, o) :: L) H) : Ok F (upd B p o) L H := by
  obtain ⟨e1, e2⟩ := S.own _ (List.mem_cons_self ..)
  have nd := List.nodup_cons.mp S.nd
  have np : ∀ q ∈ L, q.1 ≠ p := fun q hq z => nd.1 (List.mem_map.mpr ⟨q, hq, z⟩)
  refine ⟨fun a u e => ?_, nd.2, fun q hq => ?_, fun a u e => ?_, S.keep, S.kA, fun a u e => ?_, fun q hq => S.fL q (List.mem_cons_of_mem _ hq)⟩
  · by_cases h : a = p
    · subst h
      rw [upd_same] at e
      cases e
      exact e1
    · rw [upd_ne h] at e
      exact S.ex a u e
  · obtain ⟨g1, g2⟩ := S.own q (List.mem_cons_of_mem _ hq)
    exact ⟨g1, by rw [upd_ne (np q hq)]; exact g2⟩
  · have := S.ex0 a u e
    rw [upd_ne (ne_of_none this e2)]; exact this
  · by_cases h : a = p
    · subst h
      rcases S.fL _ (List.mem_cons_self ..) with z | z
      · exact .inr (.inr z)
      · exact .inr (.inl z)
    · rw [upd_ne h] at e
      exact S.fB a u e
theorem Ok.exF (S : Ok F B ((p, o) :: L) H) : Ex B (upd B p o) := Ex.new (S.own _ (List.mem_cons_self ..)).2
theorem Ok.mut (S : Ok F B ((p, o) :: L) H) : Ok F B ((p, o') :: L) (upd H p o') := by
  obtain ⟨e1, e2⟩ := S.own _ (List.mem_cons_self ..)
  have nd := List.nodup_cons.mp S.nd
  have np : ∀ q ∈ L, q.1 ≠ p := fun q hq z => nd.1 (List.mem_map.mpr ⟨q, hq, z⟩)
  refine ⟨fun a u e => ?_, List.nodup_cons.mpr nd, fun q hq => ?_, S.ex0, fun a u e h => ?_, fun a h => ?_, S.fB, fun q hq => ?_⟩
  · rw [upd_ne (ne_of_none e e2)]; exact S.ex a u e
  · rcases List.mem_cons.mp hq with rfl | hq
    · exact ⟨upd_same, e2⟩
    · obtain ⟨g1, g2⟩ := S.own q (List.mem_cons_of_mem _ hq)
      exact ⟨by rw [upd_ne (np q hq)]; exact g1, g2⟩
  · rcases S.fL _ (List.mem_cons_self ..) with z | z
    · rw [upd_ne (fun y => h (by rw [y]; exact z))]; exact S.keep a u e h
    · rw [upd_ne (fun y => by rw [y] at e; rw [z] at e; cases e)]; exact S.keep a u e h
  · by_cases y : a = p
    · exact ⟨o', by rw [y]; exact upd_same⟩
    · rw [upd_ne y]; exact S.kA a h
  · rcases List.mem_cons.mp hq with rfl | hq
    · exact S.fL (p, o) (List.mem_cons_self ..)
    · exact S.fL q (List.mem_cons_of_mem _ hq)
/-- at any place of the ledger -/
theorem Ok.mutAt (S : Ok F B (L1 ++ (p, o) :: L2) H) : Ok F B (L1 ++ (p, o') :: L2) (upd H p o') :=
  ((S.perm List.perm_middle).mut (o' := o')).perm List.perm_middle.symm
theorem Ok.newB (S : Ok F B L H) (hp : H p = none) : Ok F (upd B p o) L (upd H p o) := (S.newL hp).freeze
theorem Ok.exB (S : Ok F B L H) (hp : H p = none) : Ex B (upd B p o) := Ex.new (S.fresh hp).2.1
/-- a call that may change L1 alone -/
theorem Ok.call {B' H' : Hp} {L1' : Led} (S : Ok F B (L1 ++ L2) H) (T : Ok ⟨B, H, L1.map (·.1)⟩ B' L1' H') : Ok F B' (L1' ++ L2) H' := by
  have nd := S.nd
  rw [List.map_append, List.nodup_append] at nd
  have na : ∀ q ∈ L2, q.1 ∉ L1.map (·.1) := fun q hq z => nd.2.2 _ z _ (List.mem_map.mpr ⟨q, hq, rfl⟩) rfl
  have k2 : ∀ q ∈ L2, H' q.1 = some q.2 ∧ B' q.1 = none := fun q hq => by
    obtain ⟨e1, e2⟩ := S.own q (List.mem_append_right _ hq)
    refine ⟨T.keep _ _ e1 (na q hq), ?_⟩
    cases e : B' q.1 with
    | none => rfl
    | some u =>
      rcases T.fB _ _ e with ⟨w, z⟩ | z | z
      · rw [show B q.1 = some w from z] at e2
        cases e2
      · rw [show H q.1 = none from z] at e1
        cases e1
      · exact absurd z (na q hq)
  have key : ∀ a, a ∈ L1.map (·.1) → a ∈ F.A ∨ F.H a = none := fun a ha => by
    obtain ⟨q, hq, rfl⟩ := List.mem_map.mp ha
    exact S.fL q (List.mem_append_left _ hq)
  refine ⟨T.ex, ?_, fun q hq => ?_, S.ex0.trans T.ex0, fun a u e h => ?_, fun a h => ?_, fun a u e => ?_, fun q hq => ?_⟩
  · rw [List.map_append, List.nodup_append]
    refine ⟨T.nd, nd.2.1, fun a ha b hb z => ?_⟩
    subst z
    obtain ⟨q, hq, rfl⟩ := List.mem_map.mp hb
    obtain ⟨q', hq', e'⟩ := List.mem_map.mp ha
    rcases T.fL q' hq' with y | y
    · exact na q hq (by rw [← e']; exact y)
    · have := (S.own q (List.mem_append_right _ hq)).1
      have y' : H q'.1 = none := y
      have e'' : q'.1 = q.1 := e'
      rw [e'', this] at y'
      cases y'
  · rcases List.mem_append.mp hq with hq | hq
    · exact T.own q hq
    · exact k2 q hq
  · refine T.keep a u (S.keep a u e h) fun z => ?_
    rcases key a z with y | y
    · exact h y
    · rw [y] at e
      cases e
  · obtain ⟨u, e⟩ := S.kA a h
    by_cases z : a ∈ L1.map (·.1)
    · exact T.kA a z
    · exact ⟨u, T.keep a u e z⟩
  · rcases T.fB a u e with ⟨w, z⟩ | z | z
    · exact S.fB a w z
    · refine .inr (.inl ?_)
      cases e' : F.H a with
      | none => rfl
      | some w =>
        by_cases y : a ∈ F.A
        · obtain ⟨v, hv⟩ := S.kA a y
          rw [show H a = none from z] at hv
          cases hv
        · have := S.keep a w e' y
          rw [show H a = none from z] at this
          cases this
    · rcases key a z with y | y
      · exact .inr (.inr y)
      · exact .inr (.inl y)
  · rcases List.mem_append.mp hq with hq | hq
    · rcases T.fL q hq with z | z
      · exact key _ z
      · refine .inr ?_
        cases e' : F.H q.1 with
        | none => rfl
        | some w =>
          by_cases y : q.1 ∈ F.A
          · obtain ⟨v, hv⟩ := S.kA _ y
            rw [show H q.1 = none from z] at hv
            cases hv
          · have := S.keep _ w e' y
            rw [show H q.1 = none from z] at this
            cases this
    · exact S.fL q (List.mem_append_right _ hq)
theorem Ok.callP {B' H' : Hp} (S : Ok F B L H) (T : Ok ⟨B, H, []⟩ B' [] H') : Ok F B' L H' := S.call (L1 := []) (L1' := []) T
/-- a call that hands out one's own things besides -/
theorem Ok.callN {B' H' : Hp} {L' : Led} (S : Ok F B L H) (T : Ok ⟨B, H, []⟩ B' L' H') : Ok F B' (L' ++ L) H' := S.call (L1 := []) (L1' := L') T
theorem Ok.at (S : Ok F B L H) {q : Addr × HO} (h : q ∈ L) : H q.1 = some q.2 := (S.own q h).1
theorem Ok.sqB {K : PySem.W.Frag} {a : Addr} {xs : List V} (S : Ok F B L H) (h : SqL K B a xs) : SqL K H a xs := S.ex.sqL h
theorem Ok.tqB {K : PySem.W.Frag} {a : Addr} {xs : List V} (S : Ok F B L H) (h : SqT K B a xs) : SqT K H a xs := S.ex.sqT h
/-- the ledger less what is no longer looked at -/
theorem Ok.drop (S : Ok F B ((p, o) :: L) H) : Ok F B L H :=
  ⟨S.ex, (List.nodup_cons.mp S.nd).2, fun q hq => S.own q (List.mem_cons_of_mem _ hq), S.ex0, S.keep, S.kA, S.fB, fun q hq => S.fL q (List.mem_cons_of_mem _ hq)⟩
end

end WK
namespace L2
open PySem PySem.Spec PyProof.Rows WK
/-! ### data -/
section
variable {K : PySem.W.Frag} {B B' : Hp}
mutual
theorem Dp.up (e : Ex B B') : ∀ {v : V} {d : PyData}, Dp K B v d → Dp K B' v d
  | _, _, .non => .non
  | _, _, .bl b => .bl b
  | _, _, .int i => .int i
  | _, _, .str x => .str x
  | _, _, .lst h a => .lst (e.sqL h) (DpAll.up e a)
  | _, _, .tup h a => .tup (e.sqT h) (DpAll.up e a)
theorem DpAll.up (e : Ex B B') : ∀ {vs : List V} {ds : List PyData}, DpAll K B vs ds → DpAll K B' vs ds
  | _, _, .nil => .nil
  | _, _, .cons h t => .cons (Dp.up e h) (DpAll.up e t)
end
theorem Dp.int_inv {v : V} {i : Int} (h : Dp K B v (.int i)) : v = .int i := by cases h; rfl
theorem Dp.str_inv {v : V} {x : Str} (h : Dp K B v (.str x)) : v = .str x := by cases h; rfl
theorem Dp.bl_inv {v : V} {x : Bool} (h : Dp K B v (.bool x)) : v = .bl x := by cases h; rfl
theorem Dp.non_inv {v : V} (h : Dp K B v .none) : v = .non := by cases h; rfl
theorem Dp.tup_inv {v : V} {ds : List PyData} (h : Dp K B v (.tuple ds)) : ∃ a xs, v = .ref a ∧ SqT K B a xs ∧ DpAll K B xs ds := by
  cases h with
  | tup h a => exact ⟨_, _, rfl, h, a⟩
theorem Dp.lst_inv {v : V} {ds : List PyData} (h : Dp K B v (.list ds)) : ∃ a xs, v = .ref a ∧ SqL K B a xs ∧ DpAll K B xs ds := by
  cases h with
  | lst h a => exact ⟨_, _, rfl, h, a⟩
theorem DpAll.nil_inv {vs : List V} (h : DpAll K B vs []) : vs = [] := by cases h; rfl
theorem DpAll.cons_inv {vs : List V} {d : PyData} {ds : List PyData} (h : DpAll K B vs (d :: ds)) : ∃ v r, vs = v :: r ∧ Dp K B v d ∧ DpAll K B r ds := by
  cases h with
  | cons h t => exact ⟨_, _, rfl, h, t⟩
theorem DpAll.length : ∀ {vs : List V} {ds : List PyData}, DpAll K B vs ds → vs.length = ds.length
  | _, _, .nil => rfl
  | _, _, .cons _ t => congrArg (· + 1) (DpAll.length t)
theorem DpAll.get : ∀ {vs : List V} {ds : List PyData}, DpAll K B vs ds → ∀ {i : Nat} {v : V}, vs[i]? = some v → ∃ d, ds[i]? = some d ∧ Dp K B v d
  | _, _, .nil, i, v, h => by simp at h
  | _, _, .cons h t, 0, v, e => by simp at e; subst e; exact ⟨_, rfl, h⟩
  | _, _, .cons h t, i + 1, v, e => by simpa using DpAll.get t (i := i) (by simpa using e)
theorem DpAll.get' : ∀ {vs : List V} {ds : List PyData}, DpAll K B vs ds → ∀ {i : Nat} {d : PyData}, ds[i]? = some d → ∃ v, vs[i]? = some v ∧ Dp K B v d
  | _, _, .nil, i, v, h => by simp at h
  | _, _, .cons h t, 0, v, e => by simp at e; subst e; exact ⟨_, rfl, h⟩
  | _, _, .cons h t, i + 1, v, e => by simpa using DpAll.get' t (i := i) (by simpa using e)
theorem DpAll.append : ∀ {vs ws : List V} {ds es : List PyData}, DpAll K B vs ds → DpAll K B ws es → DpAll K B (vs ++ ws) (ds ++ es)
  | _, _, _, _, .nil, s => s
  | _, _, _, _, .cons h t, s => .cons h (DpAll.append t s)
theorem DpAll.snoc {vs : List V} {v : V} {ds : List PyData} {d : PyData} (h : DpAll K B vs ds) (g : Dp K B v d) : DpAll K B (vs ++ [v]) (ds ++ [d]) := h.append (.cons g .nil)
theorem DpAll.ints : ∀ {vs : List V} {ns : List Int}, DpAll K B vs (ns.map PyData.int) → vs = ns.map V.int
  | _, [], .nil => rfl
  | _, n :: ns, .cons h t => by rw [Dp.int_inv h, DpAll.ints t]; rfl
theorem DpAll.strs : ∀ {vs : List V} {ns : List Str}, DpAll K B vs (ns.map PyData.str) → vs = ns.map V.str
  | _, [], .nil => rfl
  | _, n :: ns, .cons h t => by rw [Dp.str_inv h, DpAll.strs t]; rfl
theorem dpInts : ∀ (ns : List Int), DpAll K B (ns.map V.int) (ns.map PyData.int)
  | [] => .nil
  | n :: ns => .cons (.int n) (dpInts ns)
theorem DpAll.bools : ∀ {vs : List V} {ns : List Bool}, DpAll K B vs (ns.map PyData.bool) → vs = ns.map V.bl
  | _, [], .nil => rfl
  | _, n :: ns, .cons h t => by rw [Dp.bl_inv h, DpAll.bools t]; rfl
end
end L2

namespace WK
open PySem PySem.Spec PyProof.Rows L2

/-! ### reading by reading: what to show next -/
def BlQ (Q : Bool → Hp → Prop) (x : V) (H : Hp) : Prop := ∃ b, x = .bl b ∧ Q b H
def InQ (Q : Int → Hp → Prop) (x : V) (H : Hp) : Prop := ∃ i, x = .int i ∧ Q i H
def PrQ (Q : V → V → Hp → Prop) (vs : List V) (H : Hp) : Prop := ∃ v w, vs = [v, w] ∧ Q v w H
section
variable {X : Cx} {K : PySem.W.Frag} {σ : L2.St} {H : Hp} {Q : VK} {ta tb te tc : TE} {t u : TT}
theorem r_var {i : Nat} {v : V} (h : σ[i]? = some (some v)) (k : Q v H) : tVar i σ H Q := ⟨v, h, k⟩
theorem r_c {v : V} (k : Q v H) : tC v σ H Q := k
theorem r_op {r : R2} (k : ta σ H fun x H1 => tb σ H1 fun y H2 => r x y H2 Q) : tOp r ta tb σ H Q := k
theorem r_un {r : V → Hp → VK → Prop} (k : ta σ H fun x H1 => r x H1 Q) : tUn r ta σ H Q := k
theorem r_test {Q : Bool → Hp → Prop} (k : te σ H (BlQ Q)) : tTest te σ H Q := k
theorem r_B {Q : Bool → Hp → Prop} (k : te σ H (BlQ Q)) : tB te σ H Q := k
theorem r_bl {Q : Bool → Hp → Prop} {b : Bool} (k : Q b H) : BlQ Q (.bl b) H := ⟨b, rfl, k⟩
theorem r_and {Q : Bool → Hp → Prop} (k : t σ H fun c H1 => if c = true then u σ H1 Q else Q false H1) : tAnd t u σ H Q := k
theorem r_or {Q : Bool → Hp → Prop} (k : t σ H fun c H1 => if c = true then Q true H1 else u σ H1 Q) : tOr t u σ H Q := k
theorem r_not {Q : Bool → Hp → Prop} (k : t σ H fun c H1 => Q (!c) H1) : tNot t σ H Q := k
theorem r_andV (k : ta σ H (BlQ fun c H1 => if c = true then tb σ H1 Q else Q (.bl false) H1)) : tAndV ta tb σ H Q := k
theorem r_orV (k : ta σ H (BlQ fun c H1 => if c = true then Q (.bl true) H1 else tb σ H1 Q)) : tOrV ta tb σ H Q := k
theorem r_notV (k : ta σ H (BlQ fun c H1 => Q (.bl (!c)) H1)) : tNotV ta σ H Q := k
theorem r_if (k : t σ H fun c H1 => if c = true then ta σ H1 Q else tb σ H1 Q) : tIf t ta tb σ H Q := k
theorem r_nil {Q : List V → Hp → Prop} (k : Q [] H) : tNil σ H Q := k
theorem r_cons {tr : TA} {Q : List V → Hp → Prop} (k : te σ H fun x H1 => tr σ H1 fun xs H2 => Q (x :: xs) H2) : tCons te tr σ H Q := k
theorem r_cb {r : List V → Hp → VK → Prop} {ts : TA} (k : ts σ H fun vs H1 => r vs H1 Q) : tCB r ts σ H Q := k
theorem r_nopart {Q : Option Int → Hp → Prop} (k : Q none H) : tNoPart σ H Q := k
theorem r_part {Q : Option Int → Hp → Prop} (k : te σ H (InQ fun i H1 => Q (some i) H1)) : tPart te σ H Q := k
theorem r_in {Q : Int → Hp → Prop} {i : Int} (k : Q i H) : InQ Q (.int i) H := ⟨i, rfl, k⟩
theorem r_sl {r : V → Option Int → Option Int → Hp → VK → Prop} {tl th : TO} (k : te σ H fun x H1 => tl σ H1 fun l H2 => th σ H2 fun u H3 => r x l u H3 Q) : tSl r te tl th σ H Q := k
theorem r_chain {r r' : R2} (k : ta σ H fun x H1 => tb σ H1 fun y H2 => r x y H2 (BlQ fun k H3 => if k = true then tc σ H3 fun w H4 => r' y w H4 Q else Q (.bl false) H3)) : tChain r r' ta tb tc σ H Q := k
/-! statements -/
variable {D : Ends} {ts us : TS}
theorem r_seq (k : ts { D with nx := us D } σ H) : tSeq ts us D σ H := k
theorem r_next (k : D.nx σ H) : tNext D σ H := k
theorem r_asg {g : TG} (k : te σ H fun x H1 => g x σ H1 D.nx) : tAsg te g D σ H := k
theorem r_drop (k : te σ H fun _ H1 => D.nx σ H1) : tDrop te D σ H := k
theorem r_ret (k : te σ H D.rt) : tRet te D σ H := k
theorem r_retN (k : D.rt .non H) : tRetN D σ H := k
theorem r_ifS (k : t σ H fun b H1 => if b = true then ts D σ H1 else us D σ H1) : tIfS t ts us D σ H := k
theorem r_gsub {to ti : TE} {tse : TSet} {v : V} {Q : L2.St → Hp → Prop} (k : to σ H fun o H1 => ti σ H1 fun i H2 => tse o i v H2 fun H3 => Q σ H3) : gSub to ti tse v σ H Q := k
theorem r_gtup {n : Nat} {gs : TGs} {a : Addr} {xs : List V} {Q : L2.St → Hp → Prop} (h : SqT K H a xs) (hn : xs.length = n) (k : gs xs σ H Q) : gTup K n gs (.ref a) σ H Q := ⟨a, xs, rfl, h, hn, k⟩
theorem r_gnil {Q : L2.St → Hp → Prop} (k : Q σ H) : gNil [] σ H Q := ⟨rfl, k⟩
theorem r_gcons {g : TG} {gs : TGs} {v : V} {vs : List V} {Q : L2.St → Hp → Prop} (k : g v σ H fun σ' H' => gs vs σ' H' Q) : gCons g gs (v :: vs) σ H Q := ⟨v, vs, rfl, k⟩
theorem r_par {i j : Nat} {tas : TA} (k : tas σ H (PrQ fun v w H1 => D.nx ((σ.set i (some v)).set j (some w)) H1)) : tPar i j tas D σ H := k
theorem r_par2 {Q : V → V → Hp → Prop} {v w : V} (k : Q v w H) : PrQ Q [v, w] H := ⟨v, w, rfl, k⟩
theorem r_aug {i : Nat} {ti : TIp} {v : V} (h : σ[i]? = some (some v)) (k : te σ H fun y H1 => ti v y H1 fun z H2 => D.nx (σ.set i (some z)) H2) : tAug i te ti D σ H := ⟨v, h, k⟩
theorem r_augS {to ti : TE} {tget : V → V → Hp → VK → Prop} {tip : TIp} {tset : TSet}
    (k : to σ H fun o H1 => ti σ H1 fun i H2 => tget o i H2 fun x H3 => te σ H3 fun y H4 => tip x y H4 fun z H5 => tset o i z H5 fun H6 => D.nx σ H6) : tAugS to ti te tget tip tset D σ H := k
end
/-! branches -/
theorem ifd {c : Prop} {inst : Decidable c} {A B : Prop} (h1 : c → A) (h2 : ¬ c → B) : if decide c = true then A else B := by
  by_cases h : c
  · rw [if_pos (decide_eq_true h)]; exact h1 h
  · rw [if_neg (by rw [decide_eq_false h]; exact Bool.false_ne_true)]; exact h2 h
theorem ifT {b : Bool} {A B : Prop} (h : b = true) (k : A) : if b = true then A else B := by rw [if_pos h]; exact k
theorem ifF {b : Bool} {A B : Prop} (h : b = false) (k : B) : if b = true then A else B := by rw [if_neg (by rw [h]; exact Bool.false_ne_true)]; exact k
theorem ifdT {c : Prop} {inst : Decidable c} {A B : Prop} (h : c) (k : A) : if decide c = true then A else B := ifT (decide_eq_true h) k
theorem ifdF {c : Prop} {inst : Decidable c} {A B : Prop} (h : ¬ c) (k : B) : if decide c = true then A else B := ifF (decide_eq_false h) k
theorem Al.hu {P w K X} (al : Al P w K X) : X.A.units + 1 < cLine := by have := al.2.2.2.2; omega
theorem Al.hu64 {P w K X} (al : Al P w K X) : X.A.units + 64 < cLine := by have := al.2.2.2.2; omega
theorem Al.calm {P w K X} (al : Al P w K X) : X.calm = true := al.2.2.2.1
/-! ### by values -/
section
variable {P : Program} {w : World} {K : PySem.W.Frag} {H B : Hp} {Q : VK} {F : Ent} {L L1 L2 : Led}
theorem v_add {i j : Int} (k : Q (.int (i + j)) H) : OpU P w K (binaryOp .Add) (.int i) (.int j) H Q := .of (fun _ al => op_add) ⟨i, j, rfl, rfl, k⟩
theorem v_sub {i j : Int} (k : Q (.int (i - j)) H) : OpU P w K (binaryOp .Sub) (.int i) (.int j) H Q := .of (fun _ al => op_sub) ⟨i, j, rfl, rfl, k⟩
theorem v_mul {i j : Int} (h : CMul i j) (k : Q (.int (i * j)) H) : OpU P w K (binaryOp .Mult) (.int i) (.int j) H Q := .of (fun _ al => op_mul) ⟨i, j, rfl, rfl, h, k⟩
theorem v_mod {i j : Int} (h : 0 < j) (k : Q (.int (i % j)) H) : OpU P w K (binaryOp .Mod) (.int i) (.int j) H Q := .of (fun _ al => op_mod) ⟨i, j, rfl, rfl, h, k⟩
theorem v_fdiv {i j : Int} (h : CDiv i j) (k : Q (.int (i / j)) H) : OpU P w K (binaryOp .FloorDiv) (.int i) (.int j) H Q := .of (fun _ al => op_fdiv) ⟨i, j, rfl, rfl, h, k⟩
theorem v_pow {i j : Int} (h : CPow i j) (k : Q (.int (i ^ j.toNat)) H) : OpU P w K (binaryOp .Pow) (.int i) (.int j) H Q := .of (fun _ al => op_pow) ⟨i, j, rfl, rfl, h, k⟩
theorem v_addS {i j : Str} (h : i.length + j.length ≤ sizeLine) (k : Q (.str (i ++ j)) H) : OpU P w K (binaryOp .Add) (.str i) (.str j) H Q := .of (fun _ al => op_add_str) ⟨i, j, rfl, rfl, h, k⟩
theorem v_lt {i j : Int} (k : Q (.bl (decide (i < j))) H) : OpU P w K (compareOp .Lt) (.int i) (.int j) H Q := .of (fun _ al => op_lt) ⟨i, j, rfl, rfl, k⟩
theorem v_le {i j : Int} (k : Q (.bl (decide (i ≤ j))) H) : OpU P w K (compareOp .LtE) (.int i) (.int j) H Q := .of (fun _ al => op_le) ⟨i, j, rfl, rfl, k⟩
theorem v_gt {i j : Int} (k : Q (.bl (decide (j < i))) H) : OpU P w K (compareOp .Gt) (.int i) (.int j) H Q := .of (fun _ al => op_gt) ⟨i, j, rfl, rfl, k⟩
theorem v_ge {i j : Int} (k : Q (.bl (decide (j ≤ i))) H) : OpU P w K (compareOp .GtE) (.int i) (.int j) H Q := .of (fun _ al => op_ge) ⟨i, j, rfl, rfl, k⟩
theorem dec_i {i j : Int} : decide (V.int i = V.int j) = decide (i = j) := by
  by_cases h : i = j
  · subst h; simp
  · rw [decide_eq_false h]; exact decide_eq_false fun z => h (by injection z)
theorem dec_s {i j : Str} : decide (V.str i = V.str j) = decide (i = j) := by
  by_cases h : i = j
  · subst h; simp
  · rw [decide_eq_false h]; exact decide_eq_false fun z => h (by injection z)
theorem dec_b {i j : Bool} : decide (V.bl i = V.bl j) = decide (i = j) := by
  by_cases h : i = j
  · subst h; simp
  · rw [decide_eq_false h]; exact decide_eq_false fun z => h (by injection z)
theorem v_eqI {i j : Int} (k : Q (.bl (decide (i = j))) H) : OpU P w K (compareOp .Eq) (.int i) (.int j) H Q := .of (fun _ al => op_eq) ⟨rfl, by rw [dec_i]; exact k⟩
theorem v_eqS {i j : Str} (k : Q (.bl (decide (i = j))) H) : OpU P w K (compareOp .Eq) (.str i) (.str j) H Q := .of (fun _ al => op_eq) ⟨rfl, by rw [dec_s]; exact k⟩
theorem v_eqB {i j : Bool} (k : Q (.bl (decide (i = j))) H) : OpU P w K (compareOp .Eq) (.bl i) (.bl j) H Q := .of (fun _ al => op_eq) ⟨rfl, by rw [dec_b]; exact k⟩
theorem v_neI {i j : Int} (k : Q (.bl (!decide (i = j))) H) : OpU P w K (compareOp .NotEq) (.int i) (.int j) H Q := .of (fun _ al => op_ne) ⟨rfl, by rw [dec_i]; exact k⟩
theorem v_neS {i j : Str} (k : Q (.bl (!decide (i = j))) H) : OpU P w K (compareOp .NotEq) (.str i) (.str j) H Q := .of (fun _ al => op_ne) ⟨rfl, by rw [dec_s]; exact k⟩
theorem v_neB {i j : Bool} (k : Q (.bl (!decide (i = j))) H) : OpU P w K (compareOp .NotEq) (.bl i) (.bl j) H Q := .of (fun _ al => op_ne) ⟨rfl, by rw [dec_b]; exact k⟩
theorem v_inSign {c : Nat} {z : Str} (k : Q (.bl (decide (c ∈ z.cps.toList))) H) : OpU P w K (compareOp .In) (.str ⟨#[c]⟩) (.str z) H Q := .of (fun _ al => op_in_sign) ⟨c, z, rfl, rfl, k⟩
end
section
variable {X : Cx} {P : Program} {w : World} {K : PySem.W.Frag} {H B : Hp} {Q : VK}
theorem op_dIn (hu : X.A.units + 1 < cLine) : OpR X (compareOp .In) (fun x y H Q => ∃ a o, y = .ref a ∧ DGet H a x o ∧ Q (.bl o.isSome) H) := by
  intro pins s σ H x y v u Q I rx ry h
  obtain ⟨a, o, rfl, g, q⟩ := h
  obtain rfl : u = Value.ref a := ry
  exact d_in hu I g rx fun s' I' => ⟨.bl o.isSome, H, I', rfl, q⟩
theorem op_dNotIn (hu : X.A.units + 1 < cLine) : OpR X (compareOp .NotIn) (fun x y H Q => ∃ a o, y = .ref a ∧ DGet H a x o ∧ Q (.bl (!o.isSome)) H) := by
  intro pins s σ H x y v u Q I rx ry h
  obtain ⟨a, o, rfl, g, q⟩ := h
  obtain rfl : u = Value.ref a := ry
  exact d_notIn hu I g rx fun s' I' => ⟨.bl (!o.isSome), H, I', rfl, q⟩
theorem ix_dict (hu : X.A.units + 1 < cLine) : IxR X (fun x y H Q => ∃ a v, x = .ref a ∧ DGet H a y (some v) ∧ Q v H) := by
  intro value slice pins s σ H x y v u Q I rx ry h hs
  obtain ⟨a, w, rfl, g, q⟩ := h
  obtain rfl : v = Value.ref a := rx
  have hT := dict_typeIs I g
  unfold subscriptTail
  refine wpAny_bind ?_
  rw [getitemInPython_of_ne hT.not_modules]
  refine wpAny_bind (wpAny_specialOf hT PySem.F.slot_dict_getitem.lookup ?_)
  have fin : wpAny (model X.prog X.w) X.A (subscripted slice false (.ref a) u) (fun r s₃ => wpAny (model X.prog X.w) X.A (letTemporaryGo value (.ref a) r >>= fun _ => pure r) (EP X pins σ Q) X.xe s₃) X.xe s := by
    rw [hs]
    exact wpAny_operating (wpAny_mono (d_getItem hu I g ry fun w' s' I' r' => show EP X pins σ Q w' s' from ⟨w, H, I', r', q⟩) (fun r s₃ h₃ => wpAny_bind (wpAny_letTemporaryGo (wpAny_pure h₃))) fun _ _ x => x)
  first
    | exact wpAny_pure (wpAny_bind fin)
    | exact wpAny_bind (wpAny_pure (wpAny_bind fin))
    | exact wpAny_bind fin
theorem set_dict (hu : X.A.units + 1 < cLine) : PSet X (fun o i v H Q => ∃ a H', o = .ref a ∧ DPut H a i v H' ∧ Q H') := by
  intro pins s σ H o i v ov iv u Q I ro ri rv h
  obtain ⟨a, H', rfl, g, q⟩ := h
  obtain rfl : ov = Value.ref a := ro
  exact d_setItem hu I g ri rv fun s' I' => ⟨H', I', q⟩
theorem mt_get (hu : X.A.units + 1 < cLine) : MtR X "dict.get" (fun x xs H Q => ∃ a y d o, x = .ref a ∧ xs = [y, d] ∧ DGet H a y o ∧ Q (o.getD d) H) := by
  intro pins s σ H x xs v us Q I rx rs h
  obtain ⟨a, y, d, o, rfl, rfl, g, q⟩ := h
  obtain rfl : v = Value.ref a := rx
  obtain ⟨u, w, rfl, r1, r2⟩ := vals2 rs
  exact d_get2 hu I g r1 r2 fun w' s' I' r' => ⟨_, H, I', r', q⟩
end

/-! ### calls of one's own -/
section
variable {P : Program} {w : World} {K : PySem.W.Frag} {mg : Str → Option Value} {base : Heap}
def FnG (P : Program) (w : World) (K : PySem.W.Frag) (mg : Str → Option Value) (base : Heap) (k : Nat) (x : Str) (ps : List Str) (sp : Sp) : Prop :=
  ∃ f fd, FnOk P w K mg base CX0 k f fd ps sp ∧ mg x = some (.ref f) ∧ PySem.W.keepIn K (.ref f) = true ∧ Binds K fd ps []
def MtG (P : Program) (w : World) (K : PySem.W.Frag) (mg : Str → Option Value) (base : Heap) (k : Nat) (C : Addr) (m : Str) (ps : List Str) (sp : Sp) : Prop :=
  ∃ f fd, FnOk P w K mg base CX0 k f fd ps sp ∧ Meth K C m f ∧ Binds K fd ps [] ∧ Cls K C
def MkG (P : Program) (w : World) (K : PySem.W.Frag) (mg : Str → Option Value) (base : Heap) (k : Nat) (C : Addr) (x : Str) (ps : List Str) (sp : Sp) : Prop :=
  ∃ f fd, FnOk P w K mg base CX0 k f fd ps sp ∧ Mk K C f ∧ mg x = some (.ref C) ∧ Binds K fd ps []
def tFn (sp : Sp) (t : TA) : TE := fun σ H Q => t σ H fun vs H1 => sp vs H1 Q E0
def tMth (C : Addr) (m : Str) (sp : Sp) (ta : TE) (t : TA) : TE := fun σ H Q => ta σ H fun x H1 => ∃ a dx fs, x = .ref a ∧ H1 a = some (.ins C dx fs) ∧ fs.lookup m = none ∧
  t σ H1 fun vs H2 => sp (x :: vs) H2 Q E0
def tMk (C : Addr) (sp : Sp) (t : TA) : TE := fun σ H Q => t σ H fun vs H1 => ∀ x dx, H1 x = none → H1 dx = none → dx ≠ x →
  sp (.ref x :: vs) (upd (upd H1 dx (.own x)) x (.ins C dx [])) (fun v H2 => v = .non ∧ Q (.ref x) H2) E0
theorem tFn_eq {sp : Sp} {t : TA} : tCall sp [] E0 t = tFn sp t := by
  unfold tCall tFn
  simp only [List.append_nil]
theorem tMth_eq {C : Addr} {m : Str} {sp : Sp} {ta : TE} {t : TA} : tMeth C m sp [] E0 ta t = tMth C m sp ta t := by
  unfold tMeth tMth
  simp only [List.append_nil]
theorem tMk_eq {C : Addr} {sp : Sp} {t : TA} : tMake C sp [] E0 t = tMk C sp t := by
  unfold tMake tMk
  simp only [List.append_nil]
variable {X : Cx} {k : Nat} {C : Addr} {x m : Str} {ps : List Str} {sp : Sp} {e o : Expr} {es : List Expr} {p pos apos : Pos} {t : TA} {ta : TE}
theorem pe_fn (G : FnG X.prog X.w X.K X.mg X.base k x ps sp) (hr : Room k X.A) (hg : Gl X x) (ha : PA X (e :: es) t) (hdb : (x == ("__debug__" : Str)) = false := by decide)
    (he : starEach (e :: es) X.env = (false, eval e X.env) :: starEach es X.env := by rfl) (hpl : (backTo pos (starEach es X.env)).any (·.1) = false := by rfl) : PE X (.Call (.Name x p) (e :: es) [] pos) (tFn sp t) := by
  obtain ⟨f, fd, F, hm, hk, hb⟩ := G
  rw [← tFn_eq]
  exact pe_call F hr hg hm hk hb .nil pass0 ha hdb he hpl
theorem pe_mth {pl : Sem Bool} (G : MtG X.prog X.w X.K X.mg X.base k C m ps sp) (hr : Room k X.A) (ho : PE X o ta) (ha : PA X (e :: es) t)
    (hst : starEach (e :: es) X.env = (false, eval e X.env) :: starEach es X.env := by rfl) (hpl : (backTo pos (starEach es X.env)).any (·.1) = false := by rfl)
    (ht : eval (.Call (.Attribute o m apos) (e :: es) [] pos) X.env = (do
      let ov ← eval o X.env
      standAt apos.atName
      let (f, first) ← holding [ov] (getMethod ov m pl)
      callWith pos f first (backTo pos (starEach (e :: es) X.env)) (backToKw pos (keywordEach [] X.env))) := by rfl) : PE X (.Call (.Attribute o m apos) (e :: es) [] pos) (tMth C m sp ta t) := by
  obtain ⟨f, fd, F, hm, hb, c⟩ := G
  rw [← tMth_eq]
  exact pe_meth ho c hm F hr hb .nil pass0 ha hst hpl ht
theorem pe_mth0 {pl : Sem Bool} (G : MtG X.prog X.w X.K X.mg X.base k C m ps sp) (hr : Room k X.A) (ho : PE X o ta)
    (ht : eval (.Call (.Attribute o m apos) [] [] pos) X.env = (do
      let ov ← eval o X.env
      standAt apos.atName
      let (f, first) ← holding [ov] (getMethod ov m pl)
      callWith pos f first (backTo pos (starEach [] X.env)) (backToKw pos (keywordEach [] X.env))) := by rfl) : PE X (.Call (.Attribute o m apos) [] [] pos) (tMth C m sp ta tNil) := by
  obtain ⟨f, fd, F, hm, hb, c⟩ := G
  rw [← tMth_eq]
  exact pe_meth0 ho c hm F hr hb .nil pass0 ht
theorem pe_mk (G : MkG X.prog X.w X.K X.mg X.base k C x ps sp) (hr : Room (k + 1) X.A) (hg : Gl X x) (ha : PA X (e :: es) t) (hdb : (x == ("__debug__" : Str)) = false := by decide)
    (he : starEach (e :: es) X.env = (false, eval e X.env) :: starEach es X.env := by rfl) (hpl : (backTo pos (starEach es X.env)).any (·.1) = false := by rfl) : PE X (.Call (.Name x p) (e :: es) [] pos) (tMk C sp t) := by
  obtain ⟨f, fd, F, M, hm, hb⟩ := G
  rw [← tMk_eq]
  exact pe_make M F hr hg hm hb .nil pass0 ha hdb he hpl
theorem pe_mk0 (G : MkG X.prog X.w X.K X.mg X.base k C x ps sp) (hr : Room (k + 1) X.A) (hg : Gl X x) (hdb : (x == ("__debug__" : Str)) = false := by decide) : PE X (.Call (.Name x p) [] [] pos) (tMk C sp tNil) := by
  obtain ⟨f, fd, F, M, hm, hb⟩ := G
  rw [← tMk_eq]
  exact pe_make0 M F hr hg hm hb .nil pass0 hdb
theorem r_fn {σ : L2.St} {H : Hp} {Q : VK} (k : t σ H fun vs H1 => sp vs H1 Q E0) : tFn sp t σ H Q := k
end
end WK
namespace WK
open PySem PySem.Spec PyProof.Rows L2
/-! ### globals -/
def GlI (mg : Str → Option Value) (x : Str) (i : Int) : Prop := ∃ t, mg x = some (.int i t)
def GlS (mg : Str → Option Value) (x : Str) (z : Str) : Prop := ∃ t, mg x = some (.str z t)
def GlV (mg : Str → Option Value) (x : Str) (v : V) : Prop := ∃ u, mg x = some u ∧ RelV v u
section
variable {X : Cx} {x : Str} {pos : Pos}
theorem pe_gi {i : Int} (h : GlI X.mg x i) (hg : Gl X x) (hd : (x == ("__debug__" : Str)) = false := by decide) : PE X (.Name x pos) (tC (.int i)) := by
  obtain ⟨t, e⟩ := h
  exact pe_glob hg e ⟨t, rfl⟩ hd
theorem pe_gs {z : Str} (h : GlS X.mg x z) (hg : Gl X x) (hd : (x == ("__debug__" : Str)) = false := by decide) : PE X (.Name x pos) (tC (.str z)) := by
  obtain ⟨t, e⟩ := h
  exact pe_glob hg e ⟨t, rfl⟩ hd
end
theorem b_len : bootBuiltins "len" = some (.builtin "len") := by decide +kernel
theorem b_sum : bootBuiltins "sum" = some (.builtin "sum") := by decide +kernel
theorem b_all : bootBuiltins "all" = some (.builtin "all") := by decide +kernel
theorem b_max : bootBuiltins "max" = some (.builtin "max") := by decide +kernel
theorem b_min : bootBuiltins "min" = some (.builtin "min") := by decide +kernel
theorem b_isinstance : bootBuiltins "isinstance" = some (.builtin "isinstance") := by decide +kernel
theorem b_int : bootBuiltins "int" = some (.type "int") := by decide +kernel
theorem b_str : bootBuiltins "str" = some (.type "str") := by decide +kernel
theorem b_list : bootBuiltins "list" = some (.type "list") := by decide +kernel
theorem b_tuple : bootBuiltins "tuple" = some (.type "tuple") := by decide +kernel
theorem b_set : bootBuiltins "set" = some (.type "set") := by decide +kernel
theorem b_dict : bootBuiltins "dict" = some (.type "dict") := by decide +kernel
theorem b_bool : bootBuiltins "bool" = some (.type "bool") := by decide +kernel

/-! ### more by values -/
section
variable {P : Program} {w : World} {K : PySem.W.Frag} {H B : Hp} {Q : VK} {F : Ent} {L L1 L2 : Led}
theorem v_ixL {p : Addr} {xs : List V} {i : Int} {v : V} (h : SqL K H p xs) (ha : atI xs i = some v) (k : Q v H) : IxU P w K (.ref p) (.int i) H Q := .ofK (r := rIxL) (fun _ _ => ix_list) ⟨p, xs, i, v, rfl, rfl, h, ha, k⟩
theorem v_ixT {p : Addr} {xs : List V} {i : Int} {v : V} (h : SqT K H p xs) (ha : atI xs i = some v) (k : Q v H) : IxU P w K (.ref p) (.int i) H Q := .ofK (r := rIxT) (fun _ _ => ix_tup) ⟨p, xs, i, v, rfl, rfl, h, ha, k⟩
theorem v_ixS {z : Str} {i : Int} {c : Nat} (hz : z.length ≤ sizeLine) (ha : atI z.cps.toList i = some c) (k : Q (.str ⟨#[c]⟩) H) : IxU P w K (.str z) (.int i) H Q := .of (fun _ _ => ix_str) ⟨z, i, c, rfl, rfl, hz, ha, k⟩
theorem v_ixD {p : Addr} {y v : V} (h : DGet H p y (some v)) (k : Q v H) : IxU P w K (.ref p) y H Q := .of (fun _ al => ix_dict al.hu) ⟨p, v, rfl, h, k⟩
theorem v_getD {p : Addr} {y v : V} (h : DGet H p y (some v)) (k : Q v H) : GetU P w K (.ref p) y H Q := by
  intro X pins s σ ov iv al I r1 r2
  obtain rfl : ov = Value.ref p := r1
  exact d_getItem al.hu I h r2 fun w' s' I' r' => ⟨v, H, I', r', k⟩
theorem v_setD {p : Addr} {y v : V} {H' : Hp} {Q : Hp → Prop} (h : DPut H p y v H') (k : Q H') : SetU P w K (.ref p) y v H Q := .of (fun _ al => set_dict al.hu) ⟨p, H', rfl, h, k⟩
theorem v_inD {p : Addr} {y : V} {o : Option V} (h : DGet H p y o) (k : Q (.bl o.isSome) H) : OpU P w K (compareOp .In) y (.ref p) H Q := .of (fun _ al => op_dIn al.hu) ⟨p, o, rfl, h, k⟩
theorem v_notInD {p : Addr} {y : V} {o : Option V} (h : DGet H p y o) (k : Q (.bl (!o.isSome)) H) : OpU P w K (compareOp .NotIn) y (.ref p) H Q := .of (fun _ al => op_dNotIn al.hu) ⟨p, o, rfl, h, k⟩
theorem v_get2 {p : Addr} {y d : V} {o : Option V} (h : DGet H p y o) (k : Q (o.getD d) H) : MetU P w K "dict.get" (.ref p) [y, d] H Q := .of (fun _ al => mt_get al.hu) ⟨p, y, d, o, rfl, rfl, h, k⟩
/-- one's own list, changed -/
theorem v_append {p : Addr} {xs : List V} {y : V} (S : Ok F B ((p, .lst xs) :: L) H) (hz : xs.length < sizeLine) (k : ∀ H', Ok F B ((p, .lst (xs ++ [y])) :: L) H' → Q .non H') : MetU P w K "list.append" (.ref p) [y] H Q :=
  .of (fun _ _ => mt_append) ⟨p, xs, y, rfl, rfl, (S.own _ (List.mem_cons_self ..)).1, hz, k _ S.mut⟩
theorem v_cat {p q : Addr} {xs zs : List V} (S : Ok F B L H) (h1 : H p = some (.lst xs)) (h2 : H q = some (.lst zs)) (hz : xs.length + zs.length ≤ sizeLine) (k : ∀ r H', Ok F B ((r, .lst (xs ++ zs)) :: L) H' → Q (.ref r) H') : OpU P w K (binaryOp .Add) (.ref p) (.ref q) H Q :=
  .of (fun _ _ => op_cat) ⟨p, q, xs, zs, rfl, rfl, h1, h2, hz, fun r hr => k r _ (S.newL hr)⟩
theorem v_len {x : V} {n : Nat} (h : LenV K x H n) (k : Q (.int n) H) : CallU P w K (.builtin "len") [x] H Q := .ofK (r := fun K xs H Q => ∃ x n, xs = [x] ∧ LenV K x H n ∧ Q (.int n) H) (fun _ _ => call_len) ⟨x, n, rfl, h, k⟩
theorem v_max2 {i j : Int} (k : Q (.int (if j > i then j else i)) H) : CallU P w K (.builtin "max") [.int i, .int j] H Q := .of (fun _ al => call_max2 al.calm) ⟨i, j, rfl, k⟩
theorem v_min2 {i j : Int} (k : Q (.int (if j < i then j else i)) H) : CallU P w K (.builtin "min") [.int i, .int j] H Q := .of (fun _ al => call_min2 al.calm) ⟨i, j, rfl, k⟩
theorem v_listOf {p : Addr} {xs : List V} (S : Ok F B L H) (h : SqL K H p xs ∨ SqT K H p xs) (k : ∀ r H', Ok F B ((r, .lst xs) :: L) H' → Q (.ref r) H') : CallU P w K (.type "list") [.ref p] H Q :=
  .ofK (r := fun K vs H Q => ∃ p ys, vs = [.ref p] ∧ (SqL K H p ys ∨ SqT K H p ys) ∧ ∀ l, H l = none → Q (.ref l) (upd H l (.lst ys))) (fun _ _ => call_list_of) ⟨p, xs, rfl, h, fun l hl => k l _ (S.newL hl)⟩
end
/-! new things -/
section
variable {σ : L2.St} {H B : Hp} {Q : VK} {F : Ent} {L : Led} {t : TA}
def NewT (xs : List V) (H : Hp) (Q : VK) : Prop := xs.length ≤ sizeLine ∧ ∀ p, H p = none → Q (.ref p) (upd H p (.tup xs))
def NewL (xs : List V) (H : Hp) (Q : VK) : Prop := xs.length ≤ sizeLine ∧ ∀ p, H p = none → Q (.ref p) (upd H p (.lst xs))
theorem r_tup (k : t σ H fun xs H1 => NewT xs H1 Q) : tTup t σ H Q := k
theorem r_lst (k : t σ H fun xs H1 => NewL xs H1 Q) : tLst t σ H Q := k
theorem new_tup {xs : List V} (S : Ok F B L H) (hz : xs.length ≤ sizeLine) (k : ∀ p B' H', Ex B B' → B' p = some (.tup xs) → Ok F B' L H' → Q (.ref p) H') : NewT xs H Q :=
  ⟨hz, fun p hp => k p _ _ (S.exB hp) upd_same (S.newB hp)⟩
theorem new_lst {xs : List V} (S : Ok F B L H) (hz : xs.length ≤ sizeLine) (k : ∀ p H', Ok F B ((p, .lst xs) :: L) H' → Q (.ref p) H') : NewL xs H Q :=
  ⟨hz, fun p hp => k p _ (S.newL hp)⟩
theorem new_dK (S : Ok F B L H) (k : ∀ p H', Ok F B ((p, .dK []) :: L) H' → Q (.ref p) H') : tDNewK σ H Q := fun p hp => k p _ (S.newL hp)
theorem new_dT (S : Ok F B L H) (k : ∀ p H', Ok F B ((p, .dT []) :: L) H' → Q (.ref p) H') : tDNewT σ H Q := fun p hp => k p _ (S.newL hp)
end
theorem Ok.sub {F : Ent} {B H : Hp} {L1 L2 : Led} (S : Ok F B (L1 ++ L2) H) : Ok ⟨B, H, L1.map (·.1)⟩ B L1 H :=
  Ok.start S.ex (by have := S.nd; rw [List.map_append, List.nodup_append] at this; exact this.1) fun q hq => S.own q (List.mem_append_left _ hq)
end WK
namespace WK
open PySem PySem.Spec PyProof.Rows L2
theorem with_al {P : Program} {w : World} {K : PySem.W.Frag} {X : Cx} {k : Nat} {sts : List Stmt} {D : Ends} {σ : L2.St} {H : Hp} (hr : Room k X.A) (h : Al P w K X → ∃ t, PSs X sts t ∧ t D σ H) (h1 : X.prog = P := by rfl) (h2 : X.w = w := by rfl) (h3 : X.K = K := by rfl) (h4 : X.calm = true := by rfl) :
    ∃ t, PSs X sts t ∧ t D σ H := h (al_of hr h1 h2 h3 h4)
section
variable {P : Program} {w : World} {K : PySem.W.Frag} {σ : L2.St} {H : Hp} {D : Ends} {g : TG} {tb : TS} {tg : Expr} {te : TE}
theorem forL {a : Addr} {xs : List V} (hx : SqL K H a xs) (Pv : Nat → L2.St → Hp → Prop) (hl : ∀ i σ H, i ≤ xs.length → Pv i σ H → SqL K H a xs) (h0 : Pv 0 σ H)
    (hs : ∀ i x σ H, xs[i]? = some x → Pv i σ H → g x σ H fun σ2 H2 => tb { D with nx := Pv (i + 1), ct := Pv (i + 1), bk := D.nx } σ2 H2) (hd : ∀ σ H, Pv xs.length σ H → D.nx σ H) :
    ItU P w K tg (.ref a) H fun J H1 => ∃ W : Nat → Nat → L2.St → Hp → Prop, (∃ m, W 0 m σ H1) ∧ ∀ i m σ H, W i m σ H →
      (J.stop i H ∧ D.nx σ H) ∨ (J.go i H ∧ ∃ N : L2.St → Hp → Prop, (∀ σ' H', N σ' H' → ∃ m', m' < m ∧ W (i + 1) m' σ' H') ∧ ∀ x H', J.yld i H x H' → g x σ H' fun σ2 H2 => tb { D with nx := N, ct := N, bk := D.nx } σ2 H2) :=
  .list hx (for_list Pv h0 hl hs hd)
end
end WK
namespace WK
open PySem PySem.Spec PyProof.Rows L2
section
variable {P : Program} {w : World} {K : PySem.W.Frag} {H B : Hp} {Q : VK} {F : Ent} {L L1 L2 : Led} {a : Addr} {xs : List V} {o : HO}
theorem Ok.mem (S : Ok F B L H) (h : (a, o) ∈ L) : H a = some o := (S.own _ h).1
theorem Ok.sqMem (S : Ok F B L H) (h : (a, HO.lst xs) ∈ L) : SqL K H a xs := .inl (.inl (S.own _ h).1)
theorem Ok.sqStay (S : Ok F B L H) (h : B a = some (.lst xs)) : SqL K H a xs := .inl (.inl (S.ex _ _ h))
theorem Ok.tqStay (S : Ok F B L H) (h : B a = some (.tup xs)) : SqT K H a xs := .inl (.inl (S.ex _ _ h))
theorem Ok.stay (S : Ok F B L H) (h : B a = some o) : H a = some o := S.ex _ _ h
theorem Ok.dp {v : V} {d : PyData} (S : Ok F B L H) (h : Dp K B v d) : Dp K H v d := h.up S.ex
theorem v_lenL (h : SqL K H a xs) (k : Q (.int xs.length) H) : CallU P w K (.builtin "len") [.ref a] H Q := v_len (.inl ⟨xs, h, rfl⟩) k
theorem v_lenT (h : SqT K H a xs) (k : Q (.int xs.length) H) : CallU P w K (.builtin "len") [.ref a] H Q := v_len (.inr ⟨xs, h, rfl⟩) k
theorem v_lenS {z : Str} (h : z.length ≤ sizeLine) (k : Q (.int z.length) H) : CallU P w K (.builtin "len") [.str z] H Q := v_len (n := z.length) ⟨h, rfl⟩ k
/-- an item of known data -/
theorem v_ixDT {v : V} {ds : List PyData} {d : PyData} {i : Int} {j : Nat} (S : Ok F B L H) (h : Dp K B v (.tuple ds)) (hi : i = (j : Int)) (hj : ds[j]? = some d) (k : ∀ u, Dp K B u d → Q u H) : IxU P w K v (.int i) H Q := by
  obtain ⟨a, xs, rfl, hq, ha⟩ := Dp.tup_inv h
  obtain ⟨u, hu, hd⟩ := ha.get' hj
  subst hi
  exact v_ixT (S.tqB hq) (atI_nat hu) (k u hd)
theorem v_ixDL {v : V} {ds : List PyData} {d : PyData} {i : Int} {j : Nat} (S : Ok F B L H) (h : Dp K B v (.list ds)) (hi : i = (j : Int)) (hj : ds[j]? = some d) (k : ∀ u, Dp K B u d → Q u H) : IxU P w K v (.int i) H Q := by
  obtain ⟨a, xs, rfl, hq, ha⟩ := Dp.lst_inv h
  obtain ⟨u, hu, hd⟩ := ha.get' hj
  subst hi
  exact v_ixL (S.sqB hq) (atI_nat hu) (k u hd)
theorem ixN_of {n j : Nat} {i : Int} (e : i = (j : Int)) (h : j < n) : ixN n i = some j := by
  subst e
  unfold ixN
  rw [if_pos (by omega), if_pos (by omega)]
  simp
theorem Ok.swap {p q : Addr × HO} (S : Ok F B (p :: q :: L) H) : Ok F B (q :: p :: L) H := S.perm (.swap ..)
end
end WK
namespace WK
open PySem PySem.Spec PyProof.Rows L2
section
variable {P : Program} {w : World} {K : PySem.W.Frag} {H B : Hp} {Q : VK} {F : Ent} {L L1 L2 : Led} {a p : Addr} {xs : List V} {o o' : HO}
theorem Ok.mutN (S : Ok F B L H) (n : Nat) (h : L[n]? = some (p, o)) : Ok F B (L.set n (p, o')) (upd H p o') := by
  obtain ⟨hn, e⟩ := List.getElem?_eq_some_iff.mp h
  have e1 : L = L.take n ++ (p, o) :: L.drop (n + 1) := by rw [← e, List.getElem_cons_drop, List.take_append_drop]
  have e2 : L.set n (p, o') = L.take n ++ (p, o') :: L.drop (n + 1) := by rw [List.set_eq_take_append_cons_drop, if_pos hn]
  rw [e2]
  rw [e1] at S
  exact S.mutAt
theorem v_appendN {y : V} (n : Nat) (S : Ok F B L H) (h : L[n]? = some (p, .lst xs)) (hz : xs.length < sizeLine) (k : ∀ H', Ok F B (L.set n (p, .lst (xs ++ [y]))) H' → Q .non H') : MetU P w K "list.append" (.ref p) [y] H Q :=
  .of (fun _ _ => mt_append) ⟨p, xs, y, rfl, rfl, (S.own _ (List.mem_of_getElem? h)).1, hz, k _ (S.mutN n h)⟩
theorem v_setLN {i : Int} {j : Nat} {y : V} {Q : Hp → Prop} (n : Nat) (S : Ok F B L H) (h : L[n]? = some (p, .lst xs)) (hj : ixN xs.length i = some j) (k : ∀ H', Ok F B (L.set n (p, .lst (xs.set j y))) H' → Q H') : SetU P w K (.ref p) (.int i) y H Q :=
  .of (fun _ _ => set_list) ⟨p, xs, i, j, rfl, rfl, (S.own _ (List.mem_of_getElem? h)).1, hj, k _ (S.mutN n h)⟩
theorem v_setKN {kvs : List (Key × V)} {y v : V} {k : Key} {Q : Hp → Prop} (n : Nat) (S : Ok F B L H) (h : L[n]? = some (p, .dK kvs)) (hy : y = kV k) (hz : kvs.length < sizeLine) (q : ∀ H', Ok F B (L.set n (p, .dK (putK kvs k v))) H' → Q H') : SetU P w K (.ref p) y v H Q := by
  subst hy
  exact v_setD (DPut.k (S.own _ (List.mem_of_getElem? h)).1 hz) (q _ (S.mutN n h))
end
end WK
namespace WK
open PySem PySem.Spec PyProof.Rows L2
section
variable {F : Ent} {B B0 H H0 : Hp} {L : Led} {a : Addr} {o : HO}
/-- what stood at an entry whose own things may not change -/
theorem Ok.kept (S : Ok ⟨B0, H0, []⟩ B L H) (h : H0 a = some o) : H a = some o := S.keep a o h (by simp)
theorem Ok.keptRd (S : Ok ⟨B0, H0, []⟩ B L H) (h : Rd H0 a o) : Rd H a o := by
  rcases h with h | ⟨u, h⟩
  · exact .inl (S.kept h)
  · exact .inr ⟨u, S.kept h⟩
theorem dgetS {kvs : List (Key × V)} {k : Str} (e : Rd H a (.dK kvs)) : DGet H a (.str k) (valV kvs (.inr k)) := .inl ⟨kvs, .inr k, e, rfl, rfl⟩
end
end WK
namespace WK
open PySem PySem.Spec PyProof.Rows L2
section
variable {P : Program} {w : World} {K : PySem.W.Frag} {F : Ent} {B H : Hp} {L : Led} {a : Addr} {o : HO} {od : Obj} {Q : VK} {kvs : List (Key × V)}
theorem Ok.rdMem (S : Ok F B L H) (h : (a, o) ∈ L) : Rd H a o := .inl (S.own _ h).1
theorem Ok.rdMemF (S : Ok F B L H) (h : (a, HO.frz od o) ∈ L) : Rd H a o := .inr ⟨od, (S.own _ h).1⟩
theorem Ok.rdStay (S : Ok F B L H) (h : B a = some o) : Rd H a o := .inl (S.ex _ _ h)
theorem Ok.rdStayF (S : Ok F B L H) (h : B a = some (.frz od o)) : Rd H a o := .inr ⟨od, S.ex _ _ h⟩
theorem v_inDS {z : Str} (h : Rd H a (.dK kvs)) (k : Q (.bl (valV kvs (.inr z)).isSome) H) : OpU P w K (compareOp .In) (.str z) (.ref a) H Q := v_inD (dgetS h) k
theorem v_notInDS {z : Str} (h : Rd H a (.dK kvs)) (k : Q (.bl (!(valV kvs (.inr z)).isSome)) H) : OpU P w K (compareOp .NotIn) (.str z) (.ref a) H Q := v_notInD (dgetS h) k
theorem v_ixDS {z : Str} {v : V} (h : Rd H a (.dK kvs)) (e : valV kvs (.inr z) = some v) (k : Q v H) : IxU P w K (.ref a) (.str z) H Q := v_ixD (by rw [← e]; exact dgetS h) k
theorem v_getDS {z : Str} {v : V} (h : Rd H a (.dK kvs)) (e : valV kvs (.inr z) = some v) (k : Q v H) : GetU P w K (.ref a) (.str z) H Q := v_getD (by rw [← e]; exact dgetS h) k
theorem v_get2S {z : Str} {d : V} (h : Rd H a (.dK kvs)) (k : Q ((valV kvs (.inr z)).getD d) H) : MetU P w K "dict.get" (.ref a) [.str z, d] H Q := v_get2 (dgetS h) k
theorem v_ipAdd {i j : Int} (k : Q (.int (i + j)) H) : IpU P w K .Add (.int i) (.int j) H Q := .of (fun _ _ => ip_add) ⟨i, j, rfl, rfl, k⟩
theorem v_ipSub {i j : Int} (k : Q (.int (i - j)) H) : IpU P w K .Sub (.int i) (.int j) H Q := .of (fun _ _ => ip_sub) ⟨i, j, rfl, rfl, k⟩
theorem valV_some_iff {κ : Type} [DecidableEq κ] {kvs : List (κ × V)} {k : κ} : (valV kvs k).isSome = true ↔ k ∈ kvs.map (·.1) := by
  unfold valV
  rw [Option.isSome_map, List.find?_isSome]
  simp only [decide_eq_true_eq, List.mem_map]
theorem valV_isSome_false {κ : Type} [DecidableEq κ] {kvs : List (κ × V)} {k : κ} (h : k ∉ kvs.map (·.1)) : (valV kvs k).isSome = false := by
  cases e : (valV kvs k).isSome with
  | false => rfl
  | true => exact absurd (valV_some_iff.mp e) h
theorem valV_isSome_true {κ : Type} [DecidableEq κ] {kvs : List (κ × V)} {k : κ} (h : k ∈ kvs.map (·.1)) : (valV kvs k).isSome = true := valV_some_iff.mpr h
end
end WK
namespace WK
theorem ifTT {A B : Prop} (k : A) : if true = true then A else B := by rw [if_pos rfl]; exact k
theorem ifFF {A B : Prop} (k : B) : if false = true then A else B := by rw [if_neg Bool.false_ne_true]; exact k
theorem ifNT {A B : Prop} (k : B) : if (!true) = true then A else B := by rw [if_neg (by decide)]; exact k
theorem ifNF {A B : Prop} (k : A) : if (!false) = true then A else B := by rw [if_pos (by decide)]; exact k
theorem ifndT {c : Prop} {inst : Decidable c} {A B : Prop} (h : c) (k : B) : if (!decide c) = true then A else B := by rw [decide_eq_true h]; exact ifNT k
theorem ifndF {c : Prop} {inst : Decidable c} {A B : Prop} (h : ¬ c) (k : A) : if (!decide c) = true then A else B := by rw [decide_eq_false h]; exact ifNF k
end WK
namespace WK
open PySem PySem.Spec PyProof.Rows L2
/-- the slots with one set, written out -/
inductive SlotSet : L2.St → Nat → Option V → L2.St → Prop where
  | zero {x v : Option V} {l : L2.St} : SlotSet (x :: l) 0 v (v :: l)
  | succ {x v : Option V} {l l' : L2.St} {i : Nat} : SlotSet l i v l' → SlotSet (x :: l) (i + 1) v (x :: l')
theorem SlotSet.eq {l l' : L2.St} {i : Nat} {v : Option V} (h : SlotSet l i v l') : l.set i v = l' := by
  induction h with
  | zero => rfl
  | succ _ ih => rw [List.set_cons_succ, ih]
theorem r_nameS {i : Nat} {v : V} {σ σ' : L2.St} {H : Hp} {Q : L2.St → Hp → Prop} (h : SlotSet σ i (some v) σ') (k : Q σ' H) : gName i v σ H Q := by
  unfold gName
  rw [h.eq]
  exact k
end WK

namespace WK
open PySem PySem.Spec PyProof.Rows L2
/-! ### what is walked, told by data -/
def ForW (g : TG) (tb : TS) (D : Ends) (σ : L2.St) : It → Hp → Prop := fun J H1 => ∃ W : Nat → Nat → L2.St → Hp → Prop, (∃ m, W 0 m σ H1) ∧ ∀ i m σ H, W i m σ H →
  (J.stop i H ∧ D.nx σ H) ∨ (J.go i H ∧ ∃ N : L2.St → Hp → Prop, (∀ σ' H', N σ' H' → ∃ m', m' < m ∧ W (i + 1) m' σ' H') ∧ ∀ x H', J.yld i H x H' → g x σ H' fun σ2 H2 => tb { D with nx := N, ct := N, bk := D.nx } σ2 H2)
def LcW (g : TG) (tt : TT) (te : TE) (vs : List Nat) (σ : L2.St) (Q : VK) : It → Hp → Prop := fun J H1 => ∀ D, H1 D = none → ∃ W : Nat → Nat → Hp → Prop, (∃ m, W 0 m (upd H1 D (.lst []))) ∧ ∀ i m H, W i m H →
  (J.stop i H ∧ Q (.ref D) H) ∨ (J.go i H ∧ ∃ Nx : Hp → Prop, (∀ H', Nx H' → ∃ m', m' < m ∧ W (i + 1) m' H') ∧ ∀ x H', J.yld i H x H' → g x (wipe σ vs) H' fun σ2 H2 => wipe σ2 vs = wipe σ vs ∧ tt σ2 H2 fun b H3 =>
    if b = true then te σ2 H3 fun y H4 => ∃ acc, H4 D = some (.lst acc) ∧ acc.length < sizeLine ∧ Nx (upd H4 D (.lst (acc ++ [y]))) else Nx H3)
def DcW (g : TG) (tt : TT) (tk tv : TE) (vs : List Nat) (σ : L2.St) (Q : VK) : It → Hp → Prop := fun J H1 => ∀ D, H1 D = none → ∃ W : Nat → Nat → Hp → Prop, (∃ m, W 0 m (upd H1 D (.dK []))) ∧ ∀ i m H, W i m H →
  (J.stop i H ∧ Q (.ref D) H) ∨ (J.go i H ∧ ∃ Nx : Hp → Prop, (∀ H', Nx H' → ∃ m', m' < m ∧ W (i + 1) m' H') ∧ ∀ x H', J.yld i H x H' → g x (wipe σ vs) H' fun σ2 H2 => wipe σ2 vs = wipe σ vs ∧ tt σ2 H2 fun b H3 =>
    if b = true then tk σ2 H3 fun y H4 => tv σ2 H4 fun z H5 => ∃ kvs k, y = kV k ∧ H5 D = some (.dK kvs) ∧ kvs.length < sizeLine ∧ Nx (upd H5 D (.dK (putK kvs k z))) else Nx H3)
structure Src {α : Type} (J : It) (GB : Hp → Led → Prop) (as : List α) (R : Hp → V → α → Prop) : Prop where
  ex : ∃ (G : Hp → Prop) (Y : Nat → Hp → V → Hp → Prop), Walk J as.length G Y ∧ (∀ F B L H, Ok F B L H → GB B L → G H) ∧
    ∀ F B L i H x H', Ok F B L H → GB B L → Y i H x H' → i < as.length → ∃ a B', as[i]? = some a ∧ Ex B B' ∧ Ok F B' L H' ∧ R B' x a
section
variable {α : Type} {J : It} {GB : Hp → Led → Prop} {as : List α} {R : Hp → V → α → Prop} {F : Ent} {B H H1 : Hp} {L : Led} {σ : L2.St}
/-- what a turn of a loop is to reach -/
def Nxt (F : Ent) (I : L2.St → Hp → Led → Prop) : L2.St → Hp → Prop := fun σ H => ∃ B L, Ok F B L H ∧ I σ B L
theorem Nxt.mk {I : L2.St → Hp → Led → Prop} (S : Ok F B L H) (h : I σ B L) : Nxt F I σ H := ⟨B, L, S, h⟩
/-- what an element of a comprehension is to reach: the new list at D holds acc, then one more -/
def Acc (F : Ent) (I : List V → Hp → Led → Prop) (D : Addr) : VK := fun y H => ∃ acc, H D = some (.lst acc) ∧ acc.length < sizeLine ∧ ∃ acc' B L, Ok F B ((D, .lst acc') :: L) (upd H D (.lst (acc ++ [y]))) ∧ I acc' B L
def Skp (F : Ent) (I : List V → Hp → Led → Prop) (D : Addr) : Hp → Prop := fun H => ∃ acc' B L, Ok F B ((D, .lst acc') :: L) H ∧ I acc' B L
theorem Acc.mk {I : List V → Hp → Led → Prop} {D : Addr} {acc : List V} {y : V} (S : Ok F B ((D, .lst acc) :: L) H) (hz : acc.length < sizeLine) (h : I (acc ++ [y]) B L) : Acc F I D y H :=
  ⟨acc, (S.own _ (List.mem_cons_self ..)).1, hz, _, B, L, S.mut, h⟩
theorem Skp.mk {I : List V → Hp → Led → Prop} {D : Addr} {acc : List V} (S : Ok F B ((D, .lst acc) :: L) H) (h : I acc B L) : Skp F I D H := ⟨acc, B, L, S, h⟩
theorem lcD (src : Src J GB as R) {g : TG} {tt : TT} {te : TE} {vs : List Nat} {Q : VK} (S : Ok F B L H1) (I : Nat → List V → Hp → Led → Prop) (h0 : I 0 [] B L) (hG : ∀ i acc B L D, i ≤ as.length → I i acc B L → GB B ((D, .lst acc) :: L))
    (hs : ∀ i a x acc B0 B L D H, as[i]? = some a → I i acc B0 L → Ex B0 B → Ok F B ((D, .lst acc) :: L) H → R B x a → g x (wipe σ vs) H fun σ2 H2 => wipe σ2 vs = wipe σ vs ∧ tt σ2 H2 fun b H3 =>
      if b = true then te σ2 H3 (Acc F (I (i + 1)) D) else Skp F (I (i + 1)) D H3)
    (hd : ∀ acc B L D H, I as.length acc B L → Ok F B ((D, .lst acc) :: L) H → Q (.ref D) H) :
    LcW g tt te vs σ Q J H1 := by
  intro D hD
  obtain ⟨G, Y, w, h1, h2⟩ := src.ex
  refine lc_it w (fun i H => ∃ acc B L, Ok F B ((D, .lst acc) :: L) H ∧ I i acc B L) ⟨[], B, L, S.newL hD, h0⟩ (fun i H hi ⟨acc, B, L, S, q⟩ => h1 F B _ H S (hG i acc B L D hi q)) (fun i x H H' hi ⟨acc, B, L, S, q⟩ y => ?_) (fun H ⟨acc, B, L, S, q⟩ => hd acc B L D H q S)
  obtain ⟨a, B', e, ex, S', r⟩ := h2 F B _ i H x H' S (hG i acc B L D (Nat.le_of_lt hi) q) y hi
  exact hs i a x acc B B' L D H' e q ex S' r
/-- .. of a dict -/
def AccD (F : Ent) (I : List (Key × V) → Hp → Led → Prop) (D : Addr) (y : V) : VK := fun z H => ∃ kvs k, y = kV k ∧ H D = some (.dK kvs) ∧ kvs.length < sizeLine ∧ ∃ kvs' B L, Ok F B ((D, .dK kvs') :: L) (upd H D (.dK (putK kvs k z))) ∧ I kvs' B L
def SkpD (F : Ent) (I : List (Key × V) → Hp → Led → Prop) (D : Addr) : Hp → Prop := fun H => ∃ kvs' B L, Ok F B ((D, .dK kvs') :: L) H ∧ I kvs' B L
theorem AccD.mk {I : List (Key × V) → Hp → Led → Prop} {D : Addr} {kvs : List (Key × V)} {y z : V} {k : Key} (S : Ok F B ((D, .dK kvs) :: L) H) (e : y = kV k) (hz : kvs.length < sizeLine) (h : I (putK kvs k z) B L) : AccD F I D y z H :=
  ⟨kvs, k, e, (S.own _ (List.mem_cons_self ..)).1, hz, _, B, L, S.mut, h⟩
theorem SkpD.mk {I : List (Key × V) → Hp → Led → Prop} {D : Addr} {kvs : List (Key × V)} (S : Ok F B ((D, .dK kvs) :: L) H) (h : I kvs B L) : SkpD F I D H := ⟨kvs, B, L, S, h⟩
theorem dc_it {n : Nat} {G : Hp → Prop} {Y : Nat → Hp → V → Hp → Prop} (w : Walk J n G Y) {g : TG} {tt : TT} {tk tv : TE} {vs : List Nat} {D : Addr} {Qd : Hp → Prop} (Pv : Nat → Hp → Prop) (h0 : Pv 0 (upd H1 D (.dK []))) (hG : ∀ i H, i ≤ n → Pv i H → G H)
    (hs : ∀ i x H H', i < n → Pv i H → Y i H x H' → g x (wipe σ vs) H' fun σ2 H2 => wipe σ2 vs = wipe σ vs ∧ tt σ2 H2 fun b H3 =>
      if b = true then tk σ2 H3 fun y H4 => tv σ2 H4 fun z H5 => ∃ kvs k, y = kV k ∧ H5 D = some (.dK kvs) ∧ kvs.length < sizeLine ∧ Pv (i + 1) (upd H5 D (.dK (putK kvs k z))) else Pv (i + 1) H3) (hd : ∀ H, Pv n H → Qd H) :
    ∃ W : Nat → Nat → Hp → Prop, (∃ m, W 0 m (upd H1 D (.dK []))) ∧ ∀ i m H, W i m H →
      (J.stop i H ∧ Qd H) ∨ (J.go i H ∧ ∃ Nx : Hp → Prop, (∀ H', Nx H' → ∃ m', m' < m ∧ W (i + 1) m' H') ∧ ∀ x H', J.yld i H x H' → g x (wipe σ vs) H' fun σ2 H2 => wipe σ2 vs = wipe σ vs ∧ tt σ2 H2 fun b H3 =>
        if b = true then tk σ2 H3 fun y H4 => tv σ2 H4 fun z H5 => ∃ kvs k, y = kV k ∧ H5 D = some (.dK kvs) ∧ kvs.length < sizeLine ∧ Nx (upd H5 D (.dK (putK kvs k z))) else Nx H3) := by
  refine ⟨fun i m H => m = n - i ∧ i ≤ n ∧ Pv i H, ⟨n, by simp, Nat.zero_le _, h0⟩, ?_⟩
  rintro i m H ⟨rfl, hi, p⟩
  have q := hG i H hi p
  by_cases hlt : i < n
  · refine .inr ⟨w.goes i H hlt q, Pv (i + 1), fun H' p' => ⟨n - (i + 1), by omega, rfl, hlt, p'⟩, fun x H' y => hs i x H H' hlt p (w.yields i H x H' hlt q y)⟩
  · have e : i = n := by omega
    subst e
    exact .inl ⟨w.stops H q, hd H p⟩
theorem dcD (src : Src J GB as R) {g : TG} {tt : TT} {tk tv : TE} {vs : List Nat} {Q : VK} (S : Ok F B L H1) (I : Nat → List (Key × V) → Hp → Led → Prop) (h0 : I 0 [] B L) (hG : ∀ i acc B L D, i ≤ as.length → I i acc B L → GB B ((D, .dK acc) :: L))
    (hs : ∀ i a x acc B0 B L D H, as[i]? = some a → I i acc B0 L → Ex B0 B → Ok F B ((D, .dK acc) :: L) H → R B x a → g x (wipe σ vs) H fun σ2 H2 => wipe σ2 vs = wipe σ vs ∧ tt σ2 H2 fun b H3 =>
      if b = true then tk σ2 H3 fun y H4 => tv σ2 H4 (AccD F (I (i + 1)) D y) else SkpD F (I (i + 1)) D H3)
    (hd : ∀ acc B L D H, I as.length acc B L → Ok F B ((D, .dK acc) :: L) H → Q (.ref D) H) :
    DcW g tt tk tv vs σ Q J H1 := by
  intro D hD
  obtain ⟨G, Y, w, h1, h2⟩ := src.ex
  refine dc_it w (fun i H => ∃ acc B L, Ok F B ((D, .dK acc) :: L) H ∧ I i acc B L) ⟨[], B, L, S.newL hD, h0⟩ (fun i H hi ⟨acc, B, L, S, q⟩ => h1 F B _ H S (hG i acc B L D hi q)) (fun i x H H' hi ⟨acc, B, L, S, q⟩ y => ?_) (fun H ⟨acc, B, L, S, q⟩ => hd acc B L D H q S)
  obtain ⟨a, B', e, ex, S', r⟩ := h2 F B _ i H x H' S (hG i acc B L D (Nat.le_of_lt hi) q) y hi
  exact hs i a x acc B B' L D H' e q ex S' r
end

/-! sources -/
section
variable {α : Type} {K : PySem.W.Frag} {a d : Addr} {xs : List V} {o : Obj}
theorem src_lst {as : List α} {enc : α → PyData} : Src (Itl K a) (fun B L => (SqL K B a xs ∨ (a, HO.lst xs) ∈ L) ∧ DpAll K B xs (as.map enc)) as (fun B x y => Dp K B x (enc y)) := by
  by_cases hl : xs.length = as.length
  · refine ⟨_, _, hl ▸ walk_list (xs := xs), fun F B L H S g => ?_, fun F B L i H x H' S g y hi => ?_⟩
    · rcases g.1 with h | h
      · exact S.sqB h
      · exact S.sqMem h
    · obtain ⟨rfl, y⟩ := y
      obtain ⟨d, hd, hx⟩ := g.2.get y
      rw [List.getElem?_map] at hd
      cases e : as[i]? with
      | none => rw [e] at hd; cases hd
      | some z =>
        rw [e] at hd
        cases hd
        exact ⟨z, B, rfl, Ex.refl _, S, hx⟩
  · refine ⟨fun _ => False, fun _ _ _ _ => False, ⟨fun _ _ _ h => h.elim, fun _ h => h.elim, fun _ _ _ _ _ h => h.elim⟩, fun F B L H S g => hl ?_, fun F B L i H x H' S g y hi => y.elim⟩
    have := g.2.length
    rw [List.length_map] at this
    exact this
theorem src_tup {as : List α} {enc : α → PyData} : Src (Itt K a) (fun B _ => SqT K B a xs ∧ DpAll K B xs (as.map enc)) as (fun B x y => Dp K B x (enc y)) := by
  by_cases hl : xs.length = as.length
  · refine ⟨_, _, hl ▸ walk_tup (xs := xs), fun F B L H S g => S.tqB g.1, fun F B L i H x H' S g y hi => ?_⟩
    obtain ⟨rfl, y⟩ := y
    obtain ⟨d, hd, hx⟩ := g.2.get y
    rw [List.getElem?_map] at hd
    cases e : as[i]? with
    | none => rw [e] at hd; cases hd
    | some z =>
      rw [e] at hd
      cases hd
      exact ⟨z, B, rfl, Ex.refl _, S, hx⟩
  · refine ⟨fun _ => False, fun _ _ _ _ => False, ⟨fun _ _ _ h => h.elim, fun _ h => h.elim, fun _ _ _ _ _ h => h.elim⟩, fun F B L H S g => hl ?_, fun F B L i H x H' S g y hi => y.elim⟩
    have := g.2.length
    rw [List.length_map] at this
    exact this
theorem src_range {lo : Int} {n : Nat} : Src (Itr lo n) (fun _ _ => True) (List.range n) (fun _ x i => x = .int (lo + (i : Nat))) := by
  refine ⟨fun _ => True, YFn fun i => .int (lo + i), (by rw [List.length_range]; exact walk_range), fun F B L H S g => True.intro, fun F B L i H x H' S g y hi => ?_⟩
  obtain ⟨rfl, rfl⟩ := y
  rw [List.length_range] at hi
  exact ⟨i, B, by simp [hi], Ex.refl _, S, rfl⟩
theorem src_str {z : Str} : Src (Its z) (fun _ _ => True) z.cps.toList (fun _ x c => x = .str ⟨#[c]⟩) := by
  refine ⟨_, _, (by rw [Array.length_toList]; exact walk_str), fun F B L H S g => True.intro, fun F B L i H x H' S g y hi => ?_⟩
  obtain ⟨rfl, c, hc, rfl⟩ := y
  exact ⟨c, B, by simpa using hc, Ex.refl _, S, rfl⟩
/-- a dict that is locked -/
def Frz (d : Addr) (o : Obj) (kvs : List (Key × V)) (B : Hp) (L : Led) : Prop := B d = some (.frz o (.dK kvs)) ∨ (d, HO.frz o (.dK kvs)) ∈ L
theorem Frz.at {F : Ent} {B H : Hp} {L : Led} {kvs : List (Key × V)} (S : Ok F B L H) (h : Frz d o kvs B L) : H d = some (.frz o (.dK kvs)) := by
  rcases h with h | h
  · exact S.stay h
  · exact S.mem h
theorem src_keys {kvs : List (Key × V)} : Src (Itk d o kvs) (Frz d o kvs) (kvs.map (·.1)) (fun _ x k => x = kV k) := by
  refine ⟨_, _, (by rw [List.length_map]; exact walk_keys), fun F B L H S g => g.at S, fun F B L i H x H' S g y hi => ?_⟩
  obtain ⟨rfl, k, v, e, rfl⟩ := y
  exact ⟨k, B, by rw [List.getElem?_map, e]; rfl, Ex.refl _, S, rfl⟩
theorem src_items {kvs : List (Key × V)} : Src (Iti d o kvs) (Frz d o kvs) kvs (fun B x kv => ∃ T, x = .ref T ∧ B T = some (.tup [kV kv.1, kv.2])) := by
  refine ⟨_, _, walk_items, fun F B L H S g => g.at S, fun F B L i H x H' S g y hi => ?_⟩
  obtain ⟨T, x', y', rfl, n, rfl, e1, e2⟩ := y
  dsimp only at e1 e2
  cases e : kvs[i]? with
  | none => rw [e] at e1; cases e1
  | some kv =>
    rw [e] at e1 e2
    cases e1
    cases e2
    exact ⟨kv, upd B T (.tup [kV kv.1, kv.2]), rfl, S.exB n, S.newB n, T, rfl, upd_same⟩
theorem getElem_zipIdx {as : List α} {i : Nat} {z : α} (e : as[i]? = some z) : as.zipIdx[i]? = some (z, i) := by
  simp [List.getElem?_zipIdx, e]
/-- enumerate(a list) -/
theorem src_enum {as : List α} {enc : α → PyData} : Src (Ite K a) (fun B L => (SqL K B a xs ∨ (a, HO.lst xs) ∈ L) ∧ DpAll K B xs (as.map enc)) as.zipIdx (fun B x y => ∃ T u, x = .ref T ∧ B T = some (.tup [.int (y.2 : Nat), u]) ∧ Dp K B u (enc y.1)) := by
  by_cases hl : xs.length = as.length
  · refine ⟨_, _, (by rw [List.length_zipIdx]; exact hl ▸ walk_enum (xs := xs)), fun F B L H S g => ?_, fun F B L i H x H' S g y hi => ?_⟩
    · rcases g.1 with h | h
      · exact S.sqB h
      · exact S.sqMem h
    · obtain ⟨T, x', y', rfl, n, rfl, e1, e2⟩ := y
      cases e1
      obtain ⟨d, hd, hx⟩ := g.2.get e2
      rw [List.getElem?_map] at hd
      cases e : as[i]? with
      | none => rw [e] at hd; cases hd
      | some z =>
        rw [e] at hd
        cases hd
        exact ⟨(z, i), upd B T (.tup [.int (i : Nat), y']), getElem_zipIdx e, S.exB n, S.newB n, T, y', rfl, upd_same, hx.up (S.exB n)⟩
  · refine ⟨fun _ => False, fun _ _ _ _ => False, ⟨fun _ _ _ h => h.elim, fun _ h => h.elim, fun _ _ _ _ _ h => h.elim⟩, fun F B L H S g => hl ?_, fun F B L i H x H' S g y hi => y.elim⟩
    have := g.2.length
    rw [List.length_map] at this
    exact this
end

/-! readings of walks -/
section
variable {P : Program} {w : World} {K : PySem.W.Frag} {σ : L2.St} {H : Hp} {tg : Expr} {te tx : TE} {g : TG} {tb : TS} {tt : TT} {vs : List Nat} {D : Ends} {Q : VK} {R : It → Hp → Prop} {wi : TI} {ta : TA}
theorem r_for (k : wi σ H (ForW g tb D σ)) : tFor wi g tb D σ H := k
theorem r_lc (k : wi σ H (LcW g tt te vs σ Q)) : tLc wi g tt te vs σ H Q := k
theorem r_dc {tk tv : TE} (k : wi σ H (DcW g tt tk tv vs σ Q)) : tDc wi g tt tk tv vs σ H Q := k
theorem r_val (k : te σ H fun v H1 => ItU P w K tg v H1 R) : iVal P w K tg te σ H R := k
def RngQ (R : It → Hp → Prop) : List V → Hp → Prop := fun vs H => ∃ j : Int, vs = [.int j] ∧ -(2 ^ 62) ≤ j ∧ j < 2 ^ 62 ∧ R (Itr 0 j.toNat) H
theorem r_rng1 (k : ta σ H (RngQ R)) : iRng1 ta σ H R := k
theorem rngQ {j : Int} (h1 : -(2 ^ 62) ≤ j) (h2 : j < 2 ^ 62) (k : R (Itr 0 j.toNat) H) : RngQ R [.int j] H := ⟨j, rfl, h1, h2, k⟩
def StrQ (R : It → Hp → Prop) : V → Hp → Prop := fun v H => ∃ x, v = .str x ∧ R (Its x) H
theorem r_str (k : te σ H (StrQ R)) : iStr te σ H R := k
theorem strQ {z : Str} (k : R (Its z) H) : StrQ R (.str z) H := ⟨z, rfl, k⟩
def ItmQ (R : It → Hp → Prop) : V → Hp → Prop := fun x H1 => ∃ d o kvs, x = .ref d ∧ H1 d = some (.frz o (.dK kvs)) ∧ R (Iti d o kvs) H1
def KeyQ (R : It → Hp → Prop) : V → Hp → Prop := fun x H1 => ∃ d o, x = .ref d ∧ ((∃ kvs, H1 d = some (.frz o (.dK kvs)) ∧ R (Itk d o kvs) H1) ∨ ∃ kvs, H1 d = some (.frz o (.dT kvs)) ∧ R (Itkt d o kvs) H1)
def VlsQ (R : It → Hp → Prop) : V → Hp → Prop := fun x H1 => ∃ d o kvs, x = .ref d ∧ H1 d = some (.frz o (.dK kvs)) ∧ R (Itd d o kvs) H1
theorem r_items (k : te σ H (ItmQ R)) : iItems te σ H R := k
theorem r_keys (k : te σ H (KeyQ R)) : iKeys te σ H R := k
theorem r_values (k : te σ H (VlsQ R)) : iVals te σ H R := k
theorem itmQ {d : Addr} {o : Obj} {kvs : List (Key × V)} (h : H d = some (.frz o (.dK kvs))) (k : R (Iti d o kvs) H) : ItmQ R (.ref d) H := ⟨d, o, kvs, rfl, h, k⟩
theorem keyQ {d : Addr} {o : Obj} {kvs : List (Key × V)} (h : H d = some (.frz o (.dK kvs))) (k : R (Itk d o kvs) H) : KeyQ R (.ref d) H := ⟨d, o, rfl, .inl ⟨kvs, h, k⟩⟩
def EnuQ (K : PySem.W.Frag) (R : It → Hp → Prop) : List V → Hp → Prop := fun vs H1 => ∃ a xs, vs = [.ref a] ∧ SqL K H1 a xs ∧ R (Ite K a) H1
/-! a dict locked for a walk -/
def LckQ (d : Addr) (od : Obj) (u : HO) (Q : VK) : VK := fun v H' => H' d = some (.frz od u) ∧ Q v (upd H' d u)
def LckD (d : Addr) (od : Obj) (u : HO) (D : Ends) : Ends := ⟨fun σ' H' => H' d = some (.frz od u) ∧ D.nx σ' (upd H' d u), fun v H' => H' d = some (.frz od u) ∧ D.rt v (upd H' d u), fun σ' H' => H' d = some (.frz od u) ∧ D.bk σ' (upd H' d u), fun σ' H' => H' d = some (.frz od u) ∧ D.ct σ' (upd H' d u)⟩
theorem r_lockS {t : TS} {d : Addr} {u : HO} (h : H d = some u) (mu : Mut (some u)) (k : ∀ od, t (LckD d od u D) σ (upd H d (.frz od u))) : tLock t D σ H := ⟨d, u, h, mu, k⟩
/-! targets -/
section
variable {F : Ent} {B : Hp} {L : Led} {gs : TGs} {n : Nat} {v : V} {QG : L2.St → Hp → Prop}
theorem r_gtupD {ds : List PyData} (S : Ok F B L H) (h : Dp K B v (.tuple ds)) (hn : ds.length = n) (k : ∀ vs, DpAll K B vs ds → gs vs σ H QG) : gTup K n gs v σ H QG := by
  obtain ⟨a, xs, rfl, hq, ha⟩ := Dp.tup_inv h
  exact ⟨a, xs, rfl, S.tqB hq, by rw [ha.length, hn], k xs ha⟩
theorem r_gtupSI {s : Str} {i : Int} (S : Ok F B L H) (h : Dp K B v (.tuple [.str s, .int i])) (k : gs [.str s, .int i] σ H QG) : gTup K 2 gs v σ H QG :=
  r_gtupD S h rfl fun vs ha => by
    obtain ⟨v1, r, rfl, h1, ha⟩ := ha.cons_inv
    obtain ⟨v2, r, rfl, h2, ha⟩ := ha.cons_inv
    obtain rfl := ha.nil_inv
    obtain rfl := h1.str_inv
    obtain rfl := h2.int_inv
    exact k
theorem r_gtupII {s i : Int} (S : Ok F B L H) (h : Dp K B v (.tuple [.int s, .int i])) (k : gs [.int s, .int i] σ H QG) : gTup K 2 gs v σ H QG :=
  r_gtupD S h rfl fun vs ha => by
    obtain ⟨v1, r, rfl, h1, ha⟩ := ha.cons_inv
    obtain ⟨v2, r, rfl, h2, ha⟩ := ha.cons_inv
    obtain rfl := ha.nil_inv
    obtain rfl := h1.int_inv
    obtain rfl := h2.int_inv
    exact k
theorem r_gtupB {a : Addr} {xs : List V} (S : Ok F B L H) (h : B a = some (.tup xs)) (hn : xs.length = n) (k : gs xs σ H QG) : gTup K n gs (.ref a) σ H QG := r_gtup (S.tqStay h) hn k
end
end
/-! more calls -/
section
variable {P : Program} {w : World} {K : PySem.W.Frag} {H B : Hp} {Q : VK} {F : Ent} {L : Led} {a : Addr}
theorem v_sum {ns : List Int} (h : SqL K H a (ns.map V.int)) (k : Q (.int ns.sum) H) : CallU P w K (.builtin "sum") [.ref a] H Q := .ofK (r := rSum) (fun _ al => cr_sum al.calm) ⟨a, ns, rfl, h, k⟩
theorem v_all {bs : List Bool} (h : SqL K H a (bs.map V.bl)) (k : Q (.bl (bs.all id)) H) : CallU P w K (.builtin "all") [.ref a] H Q := .ofK (r := rAll) (fun _ al => cr_all al.calm) ⟨a, bs, rfl, h, k⟩
theorem v_tupleL {xs : List V} (S : Ok F B L H) (h : SqL K H a xs) (k : ∀ p B' H', Ex B B' → B' p = some (.tup xs) → Ok F B' L H' → Q (.ref p) H') : CallU P w K (.type "tuple") [.ref a] H Q :=
  .ofK (r := fun K vs H Q => ∃ p ys, vs = [.ref p] ∧ ((SqL K H p ys ∧ ∀ l, H l = none → Q (.ref l) (upd H l (.tup ys))) ∨ (SqT K H p ys ∧ Q (.ref p) H))) (fun _ _ => call_tuple_of)
    ⟨a, xs, rfl, .inl ⟨h, fun p hp => k p _ _ (S.exB hp) upd_same (S.newB hp)⟩⟩
theorem v_tupleT {xs : List V} (h : SqT K H a xs) (k : Q (.ref a) H) : CallU P w K (.type "tuple") [.ref a] H Q :=
  .ofK (r := fun K vs H Q => ∃ p ys, vs = [.ref p] ∧ ((SqL K H p ys ∧ ∀ l, H l = none → Q (.ref l) (upd H l (.tup ys))) ∨ (SqT K H p ys ∧ Q (.ref p) H))) (fun _ _ => call_tuple_of)
    ⟨a, xs, rfl, .inr ⟨h, k⟩⟩
end
/-! fields -/
section
variable {K : PySem.W.Frag} {σ : L2.St} {H : Hp} {te tv : TE} {f : Str} {Q : VK} {D : Ends}
def FldQ (K : PySem.W.Frag) (f : Str) (Q : VK) : VK := fun x H1 => ∃ a C dx fs v, x = .ref a ∧ H1 a = some (.ins C dx fs) ∧ Cls K C ∧ NoAttr K C f ∧ fs.lookup f = some v ∧ Q v H1
theorem r_fld (k : te σ H (FldQ K f Q)) : tFld K te f σ H Q := k
theorem fldQ {a C dx : Addr} {fs : List (Str × V)} {v : V} (h : H a = some (.ins C dx fs)) (c : Cls K C) (n : NoAttr K C f) (l : fs.lookup f = some v) (k : Q v H) : FldQ K f Q (.ref a) H := ⟨a, C, dx, fs, v, rfl, h, c, n, l, k⟩
def SFdQ (K : PySem.W.Frag) (f : Str) (y : V) (D : Ends) (σ : L2.St) : VK := fun x H2 => ∃ a C dx fs, x = .ref a ∧ H2 a = some (.ins C dx fs) ∧ Cls K C ∧ NoAttr K C f ∧ fs.length < 1000 ∧ D.nx σ (upd H2 a (.ins C dx (putF f y fs)))
theorem r_sfld (k : tv σ H fun y H1 => te σ H1 (SFdQ K f y D σ)) : sFld K te tv f D σ H := k
theorem sfdQ {F : Ent} {B : Hp} {L : Led} {a C dx : Addr} {fs fs' : List (Str × V)} {y : V} (n : Nat) (S : Ok F B L H) (h : L[n]? = some (a, .ins C dx fs)) (c : Cls K C) (na : NoAttr K C f) (hl : fs.length < 1000) (hf : putF f y fs = fs') (k : ∀ H', Ok F B (L.set n (a, .ins C dx fs')) H' → D.nx σ H') : SFdQ K f y D σ (.ref a) H := by
  subst hf
  exact ⟨a, C, dx, fs, rfl, (S.own _ (List.mem_of_getElem? h)).1, c, na, hl, k _ (S.mutN n h)⟩
def AFdQ (K : PySem.W.Frag) (f : Str) (rd : V → V → Hp → VK → Prop) (tv : TE) (D : Ends) (σ : L2.St) : VK := fun x H1 => ∃ a C dx fs v, x = .ref a ∧ H1 a = some (.ins C dx fs) ∧ Cls K C ∧ NoAttr K C f ∧ fs.lookup f = some v ∧
  tv σ H1 fun y H2 => rd v y H2 fun z H3 => ∃ dx' fs', H3 a = some (.ins C dx' fs') ∧ fs'.length < 1000 ∧ D.nx σ (upd H3 a (.ins C dx' (putF f z fs')))
theorem r_afld {rd : V → V → Hp → VK → Prop} (k : te σ H (AFdQ K f rd tv D σ)) : sFldAug K te tv rd f D σ H := k
end
end WK
namespace WK
open PySem PySem.Spec PyProof.Rows L2
theorem r_yes {σ : L2.St} {H : Hp} {Q : Bool → Hp → Prop} (k : Q true H) : tYes σ H Q := k
end WK
namespace WK
open PySem PySem.Spec PyProof.Rows L2
section
variable {α : Type} {J : It} {GB : Hp → Led → Prop} {as : List α} {R : Hp → V → α → Prop} {F : Ent} {B H1 : Hp} {L : Led} {σ : L2.St} {K : PySem.W.Frag}
/-- a comprehension that makes data of data -/
theorem lcPure (K : PySem.W.Frag) (src : Src J GB as R) {g : TG} {tt : TT} {te : TE} {vs : List Nat} {Q : VK} (S : Ok F B L H1) (hGB : ∀ B1 D acc, Ex B B1 → GB B1 ((D, .lst acc) :: L)) (keep : α → Bool) (f : α → PyData) (hz : as.length ≤ 100000)
    (hs : ∀ a x B1 D acc H1 (C : VK) (Cs : Hp → Prop), a ∈ as → Ex B B1 → Ok F B1 ((D, .lst acc) :: L) H1 → R B1 x a →
      (∀ y H4 B2, keep a = true → Ex B1 B2 → Ok F B2 ((D, .lst acc) :: L) H4 → Dp K B2 y (f a) → C y H4) → (∀ H3 B2, keep a = false → Ex B1 B2 → Ok F B2 ((D, .lst acc) :: L) H3 → Cs H3) →
      g x (wipe σ vs) H1 fun σ2 H2 => wipe σ2 vs = wipe σ vs ∧ tt σ2 H2 fun b H3 => if b = true then te σ2 H3 C else Cs H3)
    (hd : ∀ D acc B1 H1, Ex B B1 → Ok F B1 ((D, .lst acc) :: L) H1 → DpAll K B1 acc ((as.filter keep).map f) → Q (.ref D) H1) : LcW g tt te vs σ Q J H1 := by
  refine lcD src S (fun i acc B1 L1 => L1 = L ∧ Ex B B1 ∧ DpAll K B1 acc (((as.take i).filter keep).map f)) ⟨rfl, Ex.refl _, .nil⟩ ?_ ?_ ?_
  · rintro i acc B1 L1 D _ ⟨rfl, e, _⟩
    exact hGB B1 D acc e
  · rintro i a x acc B0 B1 L1 D H1 ha ⟨rfl, e, hd⟩ e1 S1 r
    have hm : a ∈ as := List.mem_of_getElem? ha
    have hlen : acc.length ≤ i := by
      have h1 := hd.length
      have h2 := List.length_filter_le keep (as.take i)
      rw [List.length_map] at h1
      rw [List.length_take] at h2
      omega
    have hi : i < as.length := (List.getElem?_eq_some_iff.mp ha).1
    have et : as.take (i + 1) = as.take i ++ [a] := by rw [List.take_add_one, ha]; rfl
    refine hs a x B1 D acc H1 _ _ hm (e.trans e1) S1 r (fun y H4 B2 hk e2 S2 hy => ?_) (fun H3 B2 hk e2 S2 => ?_)
    · refine Acc.mk S2 (by rw [sizeLine_eq]; omega) ⟨rfl, (e.trans e1).trans e2, ?_⟩
      rw [et, List.filter_append, List.map_append]
      have : [a].filter keep = [a] := by simp [hk]
      rw [this]
      exact (hd.up (e1.trans e2)).append (.cons hy .nil)
    · refine Skp.mk S2 ⟨rfl, (e.trans e1).trans e2, ?_⟩
      rw [et, List.filter_append]
      have : [a].filter keep = [] := by simp [hk]
      rw [this, List.append_nil]
      exact hd.up (e1.trans e2)
  · rintro acc B1 L1 D H1 ⟨rfl, e, hd'⟩ S1
    rw [List.take_length] at hd'
    exact hd D acc B1 H1 e S1 hd'
theorem lcPureT {P : Program} {w : World} {tg : Expr} {enc : α → PyData} {v : V} {g : TG} {tt : TT} {te : TE} {vs : List Nat} {Q : VK} (S : Ok F B L H1) (h : Dp K B v (.tuple (as.map enc))) (keep : α → Bool) (f : α → PyData) (hz : as.length ≤ 100000)
    (hs : ∀ a x B1 D acc H1 (C : VK) (Cs : Hp → Prop), a ∈ as → Ex B B1 → Ok F B1 ((D, .lst acc) :: L) H1 → Dp K B1 x (enc a) →
      (∀ y H4 B2, keep a = true → Ex B1 B2 → Ok F B2 ((D, .lst acc) :: L) H4 → Dp K B2 y (f a) → C y H4) → (∀ H3 B2, keep a = false → Ex B1 B2 → Ok F B2 ((D, .lst acc) :: L) H3 → Cs H3) →
      g x (wipe σ vs) H1 fun σ2 H2 => wipe σ2 vs = wipe σ vs ∧ tt σ2 H2 fun b H3 => if b = true then te σ2 H3 C else Cs H3)
    (hd : ∀ D acc B1 H1, Ex B B1 → Ok F B1 ((D, .lst acc) :: L) H1 → DpAll K B1 acc ((as.filter keep).map f) → Q (.ref D) H1) : ItU P w K tg v H1 (LcW g tt te vs σ Q) := by
  obtain ⟨a, xs, rfl, hq, ha⟩ := Dp.tup_inv h
  exact ItU.tup (S.tqB hq) (lcPure K src_tup S (fun B1 D acc e => ⟨e.sqT hq, ha.up e⟩) keep f hz hs hd)
theorem lcPureL {P : Program} {w : World} {tg : Expr} {enc : α → PyData} {v : V} {g : TG} {tt : TT} {te : TE} {vs : List Nat} {Q : VK} (S : Ok F B L H1) (h : Dp K B v (.list (as.map enc))) (keep : α → Bool) (f : α → PyData) (hz : as.length ≤ 100000)
    (hs : ∀ a x B1 D acc H1 (C : VK) (Cs : Hp → Prop), a ∈ as → Ex B B1 → Ok F B1 ((D, .lst acc) :: L) H1 → Dp K B1 x (enc a) →
      (∀ y H4 B2, keep a = true → Ex B1 B2 → Ok F B2 ((D, .lst acc) :: L) H4 → Dp K B2 y (f a) → C y H4) → (∀ H3 B2, keep a = false → Ex B1 B2 → Ok F B2 ((D, .lst acc) :: L) H3 → Cs H3) →
      g x (wipe σ vs) H1 fun σ2 H2 => wipe σ2 vs = wipe σ vs ∧ tt σ2 H2 fun b H3 => if b = true then te σ2 H3 C else Cs H3)
    (hd : ∀ D acc B1 H1, Ex B B1 → Ok F B1 ((D, .lst acc) :: L) H1 → DpAll K B1 acc ((as.filter keep).map f) → Q (.ref D) H1) : ItU P w K tg v H1 (LcW g tt te vs σ Q) := by
  obtain ⟨a, xs, rfl, hq, ha⟩ := Dp.lst_inv h
  exact ItU.list (S.sqB hq) (lcPure K src_lst S (fun B1 D acc e => ⟨.inl (e.sqL hq), ha.up e⟩) keep f hz hs hd)
end
theorem filter_tt {α : Type} (as : List α) : as.filter (fun _ => true) = as := by simp
end WK
namespace WK
open PySem PySem.Spec PyProof.Rows L2
section
variable {P : Program} {w : World} {F : Ent} {B H : Hp} {L : Led} {K : PySem.W.Frag} {D : Addr} {acc : List V} {ds : List PyData} {Q : VK} {v : V}
/-- a list of one's own is data from now on -/
theorem Ok.toData (S : Ok F B ((D, .lst acc) :: L) H) (h : DpAll K B acc ds) : ∃ B', Ex B B' ∧ Ok F B' L H ∧ Dp K B' (.ref D) (.list ds) :=
  ⟨_, S.exF, S.freeze, .lst (SqL.of upd_same) (h.up S.exF)⟩
theorem Dp.ofTup {a : Addr} (h : B a = some (.tup acc)) (hd : DpAll K B acc ds) : Dp K B (.ref a) (.tuple ds) := .tup (SqT.of h) hd
theorem v_lenDL (S : Ok F B L H) (h : Dp K B v (.list ds)) (k : Q (.int ds.length) H) : CallU P w K (.builtin "len") [v] H Q := by
  obtain ⟨a, xs, rfl, hq, ha⟩ := Dp.lst_inv h
  refine v_lenL (S.sqB hq) ?_
  rw [ha.length]
  exact k
theorem v_lenDT (S : Ok F B L H) (h : Dp K B v (.tuple ds)) (k : Q (.int ds.length) H) : CallU P w K (.builtin "len") [v] H Q := by
  obtain ⟨a, xs, rfl, hq, ha⟩ := Dp.tup_inv h
  refine v_lenT (S.tqB hq) ?_
  rw [ha.length]
  exact k
theorem v_allD {bs : List Bool} (S : Ok F B L H) (h : Dp K B v (.list (bs.map PyData.bool))) (k : Q (.bl (bs.all id)) H) : CallU P w K (.builtin "all") [v] H Q := by
  obtain ⟨a, xs, rfl, hq, ha⟩ := Dp.lst_inv h
  rw [ha.bools] at hq
  exact v_all (S.sqB hq) k
/-- tuple(a list of data) -/
theorem v_tupD (S : Ok F B L H) (h : Dp K B v (.list ds)) (k : ∀ p B' H', Ex B B' → Ok F B' L H' → Dp K B' (.ref p) (.tuple ds) → Q (.ref p) H') : CallU P w K (.type "tuple") [v] H Q := by
  obtain ⟨a, xs, rfl, hq, ha⟩ := Dp.lst_inv h
  exact v_tupleL S (S.sqB hq) fun p B' H' e hp S' => k p B' H' e S' (Dp.ofTup hp (ha.up e))
theorem v_tupDT (S : Ok F B L H) (h : Dp K B v (.tuple ds)) (k : Q v H) : CallU P w K (.type "tuple") [v] H Q := by
  obtain ⟨a, xs, rfl, hq, ha⟩ := Dp.tup_inv h
  exact v_tupleT (S.tqB hq) k
/-- a display of data -/
theorem new_tupD {vs : List V} (S : Ok F B L H) (h : DpAll K B vs ds) (hz : vs.length ≤ 1000) (k : ∀ p B' H', Ex B B' → Ok F B' L H' → Dp K B' (.ref p) (.tuple ds) → Q (.ref p) H') : NewT vs H Q :=
  new_tup S (by rw [sizeLine_eq]; omega) fun p B' H' e hp S' => k p B' H' e S' (Dp.ofTup hp (h.up e))
end
end WK
namespace WK
open PySem PySem.Spec PyProof.Rows L2
section
variable {F : Ent} {B H B' H' : Hp} {L L' : Led} {a : Addr} {u : HO} {od : Obj}
/-- a thing of the caller's that is locked for a while: one's own meanwhile -/
theorem Ok.lock (S : Ok F B L H) (h : H a = some u) (hb : B a = none) (hl : a ∉ L.map (·.1)) : Ok ⟨B, upd H a (.frz od u), a :: L.map (·.1)⟩ B ((a, .frz od u) :: L) (upd H a (.frz od u)) := by
  refine Ok.start (L := (a, .frz od u) :: L) (fun b o e => ?_) (List.nodup_cons.mpr ⟨hl, S.nd⟩) fun q hq => ?_
  · rw [upd_ne (ne_of_none e hb)]; exact S.ex b o e
  · rcases List.mem_cons.mp hq with rfl | hq
    · exact ⟨upd_same, hb⟩
    · obtain ⟨e1, e2⟩ := S.own q hq
      exact ⟨by rw [upd_ne fun z => hl (by rw [← z]; exact List.mem_map.mpr ⟨q, hq, rfl⟩)]; exact e1, e2⟩
theorem Ok.unlock (S : Ok F B L H) (h : H a = some u) (hb : B a = none) (hl : a ∉ L.map (·.1)) (T : Ok ⟨B, upd H a (.frz od u), a :: L.map (·.1)⟩ B' ((a, .frz od u) :: L') H') : H' a = some (.frz od u) ∧ Ok F B' L' (upd H' a u) := by
  obtain ⟨e0, nb⟩ := T.own _ (List.mem_cons_self ..)
  have ndT := List.nodup_cons.mp T.nd
  have nl : ∀ q ∈ L', q.1 ≠ a := fun q hq z => ndT.1 (List.mem_map.mpr ⟨q, hq, z⟩)
  have old : ∀ b o, H b = some o → b ∉ L.map (·.1) → upd H' a u b = some o := fun b o e hn => by
    by_cases z : b = a
    · subst z
      rw [upd_same, ← e, h]
    · rw [upd_ne z]
      refine T.keep b o (by show upd H a _ b = _; rw [upd_ne z]; exact e) fun y => ?_
      rcases List.mem_cons.mp y with y | y
      · exact z y
      · exact hn y
  have oldF : ∀ b, (upd H a (.frz od u)) b = none → H b = none := fun b e => by
    by_cases z : b = a
    · rw [z, upd_same] at e; cases e
    · rw [upd_ne z] at e; exact e
  have oldL : ∀ b, b ∈ L.map (·.1) → b ∈ F.A ∨ F.H b = none := fun b hb' => by
    obtain ⟨q, hq, rfl⟩ := List.mem_map.mp hb'
    exact S.fL q hq
  have noneF : ∀ b, H b = none → F.H b = none := fun b e => (S.fresh e).1
  refine ⟨e0, fun b o e => ?_, ndT.2, fun q hq => ?_, S.ex0.trans T.ex0, fun b o e hn => ?_, fun b hb' => ?_, fun b o e => ?_, fun q hq => ?_⟩
  · rw [upd_ne (ne_of_none e nb)]; exact T.ex b o e
  · obtain ⟨e1, e2⟩ := T.own q (List.mem_cons_of_mem _ hq)
    exact ⟨by rw [upd_ne (nl q hq)]; exact e1, e2⟩
  · refine old b o (S.keep b o e hn) fun z => ?_
    rcases oldL b z with y | y
    · exact hn y
    · rw [y] at e; cases e
  · obtain ⟨o, e⟩ := S.kA b hb'
    by_cases z : b ∈ L.map (·.1)
    · obtain ⟨o', e'⟩ := T.kA b (List.mem_cons_of_mem _ z)
      by_cases y : b = a
      · exact ⟨u, by rw [y]; exact upd_same⟩
      · exact ⟨o', by rw [upd_ne y]; exact e'⟩
    · exact ⟨o, old b o e z⟩
  · rcases T.fB b o e with ⟨w, z⟩ | z | z
    · exact S.fB b w z
    · exact .inr (.inl (noneF b (oldF b z)))
    · rcases List.mem_cons.mp z with z | z
      · rw [z] at e; exact absurd (e.symm.trans nb) (by simp)
      · rcases oldL b z with y | y
        · exact .inr (.inr y)
        · exact .inr (.inl y)
  · rcases T.fL q (List.mem_cons_of_mem _ hq) with z | z
    · rcases List.mem_cons.mp z with z | z
      · exact absurd z (nl q hq)
      · exact oldL _ z
    · exact .inr (noneF _ (oldF _ z))
/-- a dict of one's own is let go: it stays, locked, from now on -/
theorem Ok.freezeD (S : Ok F B ((a, u) :: L) H) : ∃ B', Ex B B' ∧ B' a = some (.frz od u) ∧ Ok F B' L (upd H a (.frz od u)) := by
  have S1 : Ok F B ((a, .frz od u) :: L) (upd H a (.frz od u)) := S.mut
  exact ⟨_, S1.exF, upd_same, S1.freeze⟩
end
section
variable {X : Cx}
/-- a thing locked for good: for the expression, or the statements, that follow -/
def tFrzE (t : TE) : TE := fun σ H Q => t σ H Q ∨ ∃ d u, H d = some u ∧ Mut (some u) ∧ ∀ od, t σ (upd H d (.frz od u)) Q
theorem pe_frz {e : Expr} {t : TE} (h : PE X e t) : PE X e (tFrzE t) := by
  refine ⟨fun pins s σ H Q I hw => ?_⟩
  rcases hw with hw | ⟨d, u, hd, mu, hw⟩
  · exact h.run pins s σ H Q I hw
  · obtain ⟨od, I1⟩ := I.lock hd mu
    exact h.run pins s σ _ Q I1 (hw od)
theorem frzE {t : TE} {σ : L2.St} {H : Hp} {Q : VK} {d : Addr} {u : HO} (h : H d = some u) (mu : Mut (some u)) (k : ∀ od, t σ (upd H d (.frz od u)) Q) : tFrzE t σ H Q := .inr ⟨d, u, h, mu, k⟩
def tFrzS (t : TS) : TS := fun D σ H => t D σ H ∨ ∃ d u, H d = some u ∧ Mut (some u) ∧ ∀ od, t D σ (upd H d (.frz od u))
theorem ps_frz {st : Stmt} {t : TS} (h : PS X st t) : PS X st (tFrzS t) := by
  refine ⟨fun pins s σ H D I hw => ?_⟩
  rcases hw with hw | ⟨d, u, hd, mu, hw⟩
  · exact h.run pins s σ H D I hw
  · obtain ⟨od, I1⟩ := I.lock hd mu
    exact h.run pins s σ _ D I1 (hw od)
theorem frzS {t : TS} {σ : L2.St} {H : Hp} {D : Ends} {d : Addr} {u : HO} (h : H d = some u) (mu : Mut (some u)) (k : ∀ od, t D σ (upd H d (.frz od u))) : tFrzS t D σ H := .inr ⟨d, u, h, mu, k⟩
end
end WK

namespace WK
open PySem PySem.Spec PyProof.Rows L2
theorem valV_none {κ : Type} [DecidableEq κ] {kvs : List (κ × V)} {k : κ} (h : k ∉ kvs.map (·.1)) : valV kvs k = none := by
  cases e : valV kvs k with
  | none => rfl
  | some w => exact absurd (valV_in e) h
section
variable {α : Type} {J : It} {GB : Hp → Led → Prop} {as : List α} {R : Hp → V → α → Prop} {F : Ent} {B H H1 : Hp} {L : Led} {σ : L2.St} {K : PySem.W.Frag}
/-- a dict whose keys are all new and whose values are fixed -/
theorem dcPure (src : Src J GB as R) {g : TG} {tt : TT} {tk tv : TE} {vs : List Nat} {Q : VK} (S : Ok F B L H1) (hGB : ∀ B1 D acc, Ex B B1 → GB B1 ((D, .dK acc) :: L)) (keep : α → Bool) (f : α → Key × V) (nd : (as.map fun a => (f a).1).Nodup) (hz : as.length ≤ 100000)
    (hs : ∀ a x B1 D acc H1 (C : V → VK) (Cs : Hp → Prop), a ∈ as → Ex B B1 → Ok F B1 ((D, .dK acc) :: L) H1 → R B1 x a →
      (∀ z H4 B2, keep a = true → z = (f a).2 → Ex B1 B2 → Ok F B2 ((D, .dK acc) :: L) H4 → C (kV (f a).1) z H4) → (∀ H3 B2, keep a = false → Ex B1 B2 → Ok F B2 ((D, .dK acc) :: L) H3 → Cs H3) →
      g x (wipe σ vs) H1 fun σ2 H2 => wipe σ2 vs = wipe σ vs ∧ tt σ2 H2 fun b H3 => if b = true then tk σ2 H3 fun y H4 => tv σ2 H4 (C y) else Cs H3)
    (hd : ∀ D B1 H1, Ex B B1 → Ok F B1 ((D, .dK ((as.filter keep).map f)) :: L) H1 → Q (.ref D) H1) : DcW g tt tk tv vs σ Q J H1 := by
  refine dcD src S (fun i acc B1 L1 => L1 = L ∧ Ex B B1 ∧ acc = ((as.take i).filter keep).map f) ⟨rfl, Ex.refl _, rfl⟩ ?_ ?_ ?_
  · rintro i acc B1 L1 D _ ⟨rfl, e, _⟩
    exact hGB B1 D acc e
  · rintro i a x acc B0 B1 L1 D H1 ha ⟨rfl, e, rfl⟩ e1 S1 r
    have hm : a ∈ as := List.mem_of_getElem? ha
    have hi : i < as.length := (List.getElem?_eq_some_iff.mp ha).1
    have et : as.take (i + 1) = as.take i ++ [a] := by rw [List.take_add_one, ha]; rfl
    have hlen : (((as.take i).filter keep).map f).length ≤ i := by
      have h2 := List.length_filter_le keep (as.take i)
      rw [List.length_map]
      rw [List.length_take] at h2
      omega
    refine hs a x B1 D _ H1 _ _ hm (e.trans e1) S1 r (fun z H4 B2 hk hz' e2 S2 => ?_) (fun H3 B2 hk e2 S2 => ?_)
    · refine AccD.mk (k := (f a).1) S2 rfl (by rw [sizeLine_eq]; omega) ⟨rfl, (e.trans e1).trans e2, ?_⟩
      subst hz'
      rw [et, List.filter_append, List.map_append]
      have : [a].filter keep = [a] := by simp [hk]
      rw [this]
      refine putK_new _ ?_
      cases ev : valV (((as.take i).filter keep).map f) (f a).1 with
      | none => rfl
      | some w =>
        exfalso
        have h1 := valV_in ev
        rw [List.map_map] at h1
        obtain ⟨b, hb, eb⟩ := List.mem_map.mp h1
        have hb' := (List.mem_filter.mp hb).1
        obtain ⟨j, hj⟩ := List.getElem?_of_mem hb'
        have hji : j < i := by
          have := (List.getElem?_eq_some_iff.mp hj).1
          rw [List.length_take] at this
          omega
        rw [List.getElem?_take_of_lt hji] at hj
        have q1 : (as.map fun a => (f a).1)[j]? = some (f b).1 := by rw [List.getElem?_map, hj]; rfl
        have q2 : (as.map fun a => (f a).1)[i]? = some (f a).1 := by rw [List.getElem?_map, ha]; rfl
        have q3 := (List.getElem?_inj (i := j) (j := i) (by rw [List.length_map]; omega) nd).mp (by rw [q1, q2]; exact congrArg some eb)
        omega
    · refine SkpD.mk S2 ⟨rfl, (e.trans e1).trans e2, ?_⟩
      rw [et, List.filter_append]
      have : [a].filter keep = [] := by simp [hk]
      rw [this, List.append_nil]
  · rintro acc B1 L1 D H1 ⟨rfl, e, rfl⟩ S1
    rw [List.take_length] at S1
    exact hd D B1 H1 e S1
end
end WK
namespace WK
open PySem PySem.Spec PyProof.Rows L2
section
variable {X : Cx}
/-- name = {..} on one line, the name a local -/
theorem ps_setDc {i : Nat} {y : Str} {py : Pos} {kx vx tg iter : Expr} {ifs : List Expr} {scope : Scope} {own : List (Str × Nat)} {pos spos : Pos} {wi : TI} {g : TG} {tt : TT} {tk tv : TE} (hc : X.calm = true) (hN : X.N.Nodup) (hy : X.N[i]? = some y) (hyl : X.env.scope.names.lookup y = some .local)
    (hsw : swapsWith (.DictComp kx vx [⟨tg, iter, ifs, 0⟩] scope pos) (some (.Name y py)) spos.line X.env = pure true) (hi : PI X tg iter wi) (ok : BlkOk X.N X.env.scope scope own)
    (hg : ∀ (s : Shared) (H : Hp) (C : Addr) (cl : List (Str × Addr)) (fp : List Addr), PG (X.blk s H scope (compEnvC scope cl C X.env) fp) tg g) (ht : ∀ (s : Shared) (H : Hp) (C : Addr) (cl : List (Str × Addr)) (fp : List Addr), PTs (X.blk s H scope (compEnvC scope cl C X.env) fp) ifs tt)
    (hk : ∀ (s : Shared) (H : Hp) (C : Addr) (cl : List (Str × Addr)) (fp : List Addr), PE (X.blk s H scope (compEnvC scope cl C X.env) fp) kx tk)
    (he : ∀ (s : Shared) (H : Hp) (C : Addr) (cl : List (Str × Addr)) (fp : List Addr), PE (X.blk s H scope (compEnvC scope cl C X.env) fp) vx tv) (hs : ∀ x, foldedSetIterable iter X.env x = pure x := by intro _; rfl) :
    PS X (.Assign [.Name y py] (.DictComp kx vx [⟨tg, iter, ifs, 0⟩] scope pos) spos) (tAsg (tDc wi g tt tk tv (own.map (·.2))) (gName i)) := by
  refine ⟨fun pins s σ H D I h => ?_⟩
  rw [exec_Assign_Name_used _ _ _ _ hsw]
  refine wpAny_bind (wpAny_standAt (wpAny_bind ?_))
  show wpAny _ X.A (do let _ ← comprehension (.DictComp kx vx [⟨tg, iter, ifs, 0⟩] scope pos) scope X.env (firstIterPos [⟨tg, iter, ifs, 0⟩] pos) newDict false (eval iter X.env) (some (assign (.Name y py) X.env))) _ _ s
  have h : tDc wi g tt tk tv (own.map (·.2)) σ H (fun x H1 => gName i x σ H1 D.nx) := h
  refine wpAny_bind (thn (dc_core (Qf := fun _ s' => SP X pins D .next s') hc hN I hi ok hg ht hk he hs h fun L C s' m H' I' q hn f => ?_) fun _ s' hq => wpAny_pure (wpAny_pure hq))
  show wpAny _ _ (assign (.Name y py) X.env (.ref L)) _ _ _
  refine wpAny_assign_Name (store_ok2 (v := V.ref L) I' hN hy (.inl hyl) rfl (fun s2 I2 ⟨a, sb, ha⟩ => ?_) (.inr hyl))
  obtain ⟨f0, f1, f2, f3, f4, f5⟩ := f
  have haC : C ≠ a := by
    rcases ha with z | z
    · rw [z]; exact f1
    · exact fun e => f4 y a z e.symm
  refine ⟨m, hn.sameBut sb haC, fun h3 sb3 => ?_⟩
  exact ⟨_, H', I2.turned (t' := s2.toks) (fun b o hb e => (sb3.2 b hb).trans e) f0 f1 f3 f4 f5, q⟩
theorem sw_trueD {kx vx : Expr} {gs : List Comprehension} {scope : Scope} {pos py : Pos} {y : Str} {l : Nat} {env : Env} (hk : env.scope.kind = .function) (hy : env.scope.names.lookup y = some .local) (hl : (py.line == pos.line) = true)
    (ha : (scope.names.any fun (n, k) => n == y && (k == .local || k == .cell)) = false) : swapsWith (.DictComp kx vx gs scope pos) (some (.Name y py)) l env = pure true := by
  have ky : env.kindOf y = some .local := hy
  have hb : env.blockKind = .function := by unfold Env.blockKind; rw [hk]; rfl
  unfold swapsWith
  simp only [hb, ky, ha, Expr.pos, hl]
  rfl
end
end WK
namespace WK
open PySem PySem.Spec PyProof.Rows L2
section
variable {α : Type} {F : Ent} {B H : Hp} {L : Led} {σ : L2.St} {K : PySem.W.Frag} {P : Program} {w : World} {tg : Expr}
/-- what a turn of a loop is to reach, what stays only growing -/
structure NxE (F : Ent) (B : Hp) (I : L2.St → Hp → Led → Prop) (σ : L2.St) (H : Hp) : Prop where
  it : ∃ B1 L1, Ok F B1 L1 H ∧ Ex B B1 ∧ I σ B1 L1
theorem NxE.mk' {I : L2.St → Hp → Led → Prop} {B1 : Hp} (S : Ok F B1 L H) (e : Ex B B1) (h : I σ B1 L) : NxE F B I σ H := ⟨B1, L, S, e, h⟩
/-- any source that what stays carries -/
theorem forDS {J : It} {GB : Hp → Led → Prop} {as : List α} {R : Hp → V → α → Prop} (src : Src J GB as R) {g : TG} {tb : TS} {D : Ends} (S : Ok F B L H) (I : Nat → L2.St → Hp → Led → Prop) (hGB : ∀ i σ B1 L1, Ex B B1 → I i σ B1 L1 → GB B1 L1) (h0 : I 0 σ B L)
    (hs : ∀ i a x σ B0 B1 L H, as[i]? = some a → I i σ B0 L → Ex B B0 → Ex B0 B1 → Ok F B1 L H → R B1 x a → g x σ H fun σ2 H2 => tb { D with nx := NxE F B (I (i + 1)), ct := NxE F B (I (i + 1)), bk := D.nx } σ2 H2)
    (hd : ∀ σ B1 L H, I as.length σ B1 L → Ex B B1 → Ok F B1 L H → D.nx σ H) : ForW g tb D σ J H := by
  obtain ⟨G, Y, w, h1, h2⟩ := src.ex
  refine for_it w (fun i => NxE F B (I i)) (.mk' S (Ex.refl _) h0) (fun i σ H hi ⟨B1, L, S, e, q⟩ => h1 F B1 L H S (hGB i σ B1 L e q)) (fun i x σ H H' hi ⟨B1, L, S, e, q⟩ y => ?_) (fun σ H ⟨B1, L, S, e, q⟩ => hd σ B1 L H q e S)
  obtain ⟨a, B', ea, ex, S', r⟩ := h2 F B1 L i H x H' S (hGB i σ B1 L e q) y hi
  exact hs i a x σ B1 B' L H' ea q e ex S' r
/-- over a tuple of data -/
theorem forDT {as : List α} {enc : α → PyData} {v : V} {g : TG} {tb : TS} {D : Ends} (S : Ok F B L H) (h : Dp K B v (.tuple (as.map enc))) (I : Nat → L2.St → Hp → Led → Prop) (h0 : I 0 σ B L)
    (hs : ∀ i a x σ B0 B1 L H, as[i]? = some a → I i σ B0 L → Ex B B0 → Ex B0 B1 → Ok F B1 L H → Dp K B1 x (enc a) → g x σ H fun σ2 H2 => tb { D with nx := NxE F B (I (i + 1)), ct := NxE F B (I (i + 1)), bk := D.nx } σ2 H2)
    (hd : ∀ σ B1 L H, I as.length σ B1 L → Ex B B1 → Ok F B1 L H → D.nx σ H) : ItU P w K tg v H (ForW g tb D σ) := by
  obtain ⟨a, xs, rfl, hq, ha⟩ := Dp.tup_inv h
  exact ItU.tup (S.tqB hq) (forDS (src_tup (xs := xs) (as := as) (enc := enc)) S I (fun _ _ _ _ e _ => ⟨e.sqT hq, ha.up e⟩) h0 hs hd)
theorem forDL {as : List α} {enc : α → PyData} {v : V} {g : TG} {tb : TS} {D : Ends} (S : Ok F B L H) (h : Dp K B v (.list (as.map enc))) (I : Nat → L2.St → Hp → Led → Prop) (h0 : I 0 σ B L)
    (hs : ∀ i a x σ B0 B1 L H, as[i]? = some a → I i σ B0 L → Ex B B0 → Ex B0 B1 → Ok F B1 L H → Dp K B1 x (enc a) → g x σ H fun σ2 H2 => tb { D with nx := NxE F B (I (i + 1)), ct := NxE F B (I (i + 1)), bk := D.nx } σ2 H2)
    (hd : ∀ σ B1 L H, I as.length σ B1 L → Ex B B1 → Ok F B1 L H → D.nx σ H) : ItU P w K tg v H (ForW g tb D σ) := by
  obtain ⟨a, xs, rfl, hq, ha⟩ := Dp.lst_inv h
  exact ItU.list (S.sqB hq) (forDS (src_lst (xs := xs) (as := as) (enc := enc)) S I (fun _ _ _ _ e _ => ⟨.inl (e.sqL hq), ha.up e⟩) h0 hs hd)
end
end WK
namespace WK
open PySem PySem.Spec PyProof.Rows L2
/-- what was added to what stays is dropped again -/
theorem Ok.rebase {B B0 B' H H' : Hp} {A : List Addr} {L : Led} (e : Ex B B0) (T : Ok ⟨B0, H, A⟩ B' L H') : Ok ⟨B, H, A⟩ B L H' := by
  have e1 : Ex B B' := e.trans T.ex0
  refine ⟨e1.trans T.ex, T.nd, fun q hq => ⟨(T.own q hq).1, ?_⟩, Ex.refl _, T.keep, T.kA, fun b o h => .inl ⟨o, h⟩, T.fL⟩
  cases h : B q.1 with
  | none => rfl
  | some o =>
    have h2 := (T.own q hq).2
    rw [e1 _ _ h] at h2
    cases h2
end WK
namespace WK
open PySem PySem.Spec PyProof.Rows L2
/-- over a list or a tuple of data -/
theorem forDA {α : Type} {F : Ent} {B H : Hp} {L : Led} {σ : L2.St} {K : PySem.W.Frag} {P : Program} {w : World} {tg : Expr} {as : List α} {enc : α → PyData} {v : V} {d : PyData} {g : TG} {tb : TS} {D : Ends} (S : Ok F B L H) (h : Dp K B v d) (hd' : d = .list (as.map enc) ∨ d = .tuple (as.map enc)) (I : Nat → L2.St → Hp → Led → Prop) (h0 : I 0 σ B L)
    (hs : ∀ i a x σ B0 B1 L H, as[i]? = some a → I i σ B0 L → Ex B B0 → Ex B0 B1 → Ok F B1 L H → Dp K B1 x (enc a) → g x σ H fun σ2 H2 => tb { D with nx := NxE F B (I (i + 1)), ct := NxE F B (I (i + 1)), bk := D.nx } σ2 H2)
    (hd : ∀ σ B1 L H, I as.length σ B1 L → Ex B B1 → Ok F B1 L H → D.nx σ H) : ItU P w K tg v H (ForW g tb D σ) := by
  rcases hd' with rfl | rfl
  · exact forDL S h I h0 hs hd
  · exact forDT S h I h0 hs hd
end WK

namespace WK
open PySem PySem.Spec PyProof.Rows L2 PyProof.V PySem.Calls
section
variable {X : Cx} {o : Expr} {p pos apos mpos : Pos} {td : TE}
/-- sum(o.values()), a dict with int values -/
def SumQ (Q : VK) : VK := fun x H1 => ∃ (a : Addr) (kvs : List (Key × V)) (is : List Int), x = V.ref a ∧ Rd H1 a (.dK kvs) ∧ kvs.map (·.2) = is.map V.int ∧ Q (.int is.sum) H1
def tSumVals (td : TE) : TE := fun σ H Q => td σ H (SumQ Q)
theorem r_sumVals {σ : L2.St} {H : Hp} {Q : VK} (k : td σ H (SumQ Q)) : tSumVals td σ H Q := k
theorem sumQ {H : Hp} {Q : VK} {a : Addr} {kvs : List (Key × V)} {is : List Int} (h : Rd H a (.dK kvs)) (e : kvs.map (·.2) = is.map V.int) (k : Q (.int is.sum) H) : SumQ Q (.ref a) H := ⟨a, kvs, is, rfl, h, e, k⟩
theorem pe_sumVals (hc : X.calm = true) (hg : Gl X "sum") (hm : X.mg "sum" = none) (hd : PE X o td) (hbase : attributeBase o "values" X.env (eval o X.env) = eval o X.env := by rfl) (hline : (apos.endLine == mpos.line) = true := by rfl)
    (hse : starEach [Expr.Call (.Attribute o "values" apos) [] [] mpos] X.env = [(false, eval (Expr.Call (.Attribute o "values" apos) [] [] mpos) X.env)] := by rfl) :
    PE X (.Call (.Name "sum" p) [.Call (.Attribute o "values" apos) [] [] mpos] [] pos) (tSumVals td) := by
  refine ⟨fun pins s σ H Q I h => ?_⟩
  refine wpAny_Call_Name_kw (ld_blt I hg hm (u := .builtin "sum") (by first | rfl | decide +kernel) ?_ (by first | decide +kernel | decide) (by first | decide +kernel | decide))
  rw [hse]
  refine PySem.callWith_builtin1 (wpAny_Call_method0_late hbase hline (thn (hd.run pins s σ H _ I h) fun v s1 ⟨x, H1, I1, r1, a, kvs, is, ex, ha, hv, q⟩ => ?_))
  subst ex
  obtain rfl : v = Value.ref a := r1
  obtain ⟨_, hsys, vs, rel, dof⟩ := dk_rd I1.hok ha
  obtain ⟨ep, dat⟩ := dof.dictAt
  have dat' := dat
  obtain ⟨ob, es, ho, ex, hdat, hko, hpr, hnd⟩ := dat'
  refine ⟨"dict", "dict.values", F.plainAttrs_dict, F.slot_dict_values, F.type_dict_values, ⟨ob, ho, ex.1⟩, fun b e => ?_, Calls.callWith_builtin rfl (PySem.evalArgs_none ?_)⟩
  · cases e
    exact ⟨ob, ho, ex.2.1⟩
  refine call_meetsIn F.slot_dict_values ⟨ob, ho, ex.1⟩ F.entry_dict_values (F.args_dict_values_1 _) (meets_dict_values (mixKind X.prog X.w) a hsys) ⟨⟨vs, dof⟩, ?_⟩
  have k1 : ∀ b u, s1.heap.get? b = some u → (s1.heap.push { cls := .type "dict_values", data := .fields #[.ref a] }).get? b = some u := fun b u e => Heap.get?_push_of_some _ e
  have dat1 : (s1.heap.push { cls := .type "dict_values", data := .fields #[.ref a] }).DictAt (mixKind X.prog X.w) a vs ep := dat.keep k1
  have hlv : vs.length = is.length := by
    have e1 := congrArg List.length hv
    rw [List.length_map, List.length_map] at e1
    rw [← e1]
    exact (KV.length rel).symm
  have hval : ∀ (i : Nat) (v : Value), (∃ k, vs[i]? = some (k, v)) → ∃ t, v = Value.int (is.getD i 0) t := fun i v ⟨k, hk⟩ => by
    obtain ⟨x, h1, h2⟩ := KV.at' rel hk
    have e1 : (kvs.map (·.2))[i]? = some x := by rw [List.getElem?_map, h1] <;> rfl
    rw [hv, List.getElem?_map] at e1
    obtain ⟨j, hj, e2⟩ := Option.map_eq_some_iff.mp e1
    subst e2
    obtain ⟨t, e3⟩ := h2
    refine ⟨t, ?_⟩
    rw [e3, List.getD_eq_getElem?_getD, hj] <;> rfl
  refine call_sum_walkAnyS (wpAny_pyIter_values (v := s1.heap.objs.size) (d := a) ⟨_, Heap.get?_push_size _ rfl, rfl, rfl⟩ dat1 ?_)
  have hlt : a < s1.heap.objs.size := Heap.lt_size ho
  have hsz : (s1.heap.push { cls := .type "dict_values", data := .fields #[.ref a] }).objs.size = s1.heap.objs.size + 1 := Heap.size_push _ _
  refine ⟨_, _, _, _, _, _, _, fun i => is.getD i 0, rfl, (Walks.dictValues (knd := mixKind X.prog X.w) (A := X.A.in1) (I.ok.hd hc) (s1.heap.push { cls := .type "dict_values", data := .fields #[.ref a] }).objs.size a (by rw [hsz]; exact Nat.ne_of_lt (Nat.lt_succ_of_lt hlt)) vs ep).toS,
    ⟨⟨_, Heap.get?_push_size _ rfl, rfl, rfl⟩, dat1.keep fun b u e => Heap.get?_push_of_some _ e⟩, fun b hb => ?_, hval, fun s' t' hm => ?_⟩
  · show b < ((s1.heap.push _).push _).objs.size
    rw [Heap.size_push, Heap.size_push]
    rw [hsz] at hb
    rcases List.mem_cons.mp hb with e | hb
    · rw [e]
      exact Nat.lt_succ_self _
    · have e : b = a := List.mem_singleton.mp hb
      rw [e]
      exact Nat.lt_succ_of_lt (Nat.lt_succ_of_lt hlt)
  · have hk : ∀ b u, s1.heap.get? b = some u → s'.heap.get? b = some u := fun b u e =>
      hm.heap b u (fun hmem => by
        have e1 : b = (s1.heap.push { cls := .type "dict_values", data := .fields #[.ref a] }).objs.size := List.mem_singleton.mp hmem
        have e2 := Heap.lt_size e
        rw [hsz] at e1
        rw [e1] at e2
        exact absurd e2 (Nat.not_lt.mpr (Nat.le_succ _))) (Heap.get?_push_of_some _ (k1 b u e))
    have hsum : preSum (fun i => is.getD i 0) vs.length = is.sum := by
      rw [preSum_getD, hlv, List.take_length]
    rw [Moved.eq_with hm, hsum]
    exact ⟨.int _, H1, I1.kept (t' := s'.toks) hk, ⟨t', rfl⟩, q⟩
end
end WK
namespace WK
open PySem PySem.Spec PyProof.Rows L2
section
variable {F : Ent} {B H : Hp} {L : Led} {σ : L2.St} {Q : VK} {C : Addr} {m : Str} {sp : Sp} {ta : TE} {t : TA}
def MthQ (C : Addr) (m : Str) (sp : Sp) (t : TA) (σ : L2.St) (Q : VK) : VK := fun x H1 => ∃ a dx fs, x = .ref a ∧ H1 a = some (.ins C dx fs) ∧ fs.lookup m = none ∧ t σ H1 fun vs H2 => sp (x :: vs) H2 Q E0
theorem r_mth (k : ta σ H (MthQ C m sp t σ Q)) : tMth C m sp ta t σ H Q := k
theorem mthQ {a dx : Addr} {fs : List (Str × V)} (h : H a = some (.ins C dx fs)) (hl : fs.lookup m = none) (k : t σ H fun vs H2 => sp (.ref a :: vs) H2 Q E0) : MthQ C m sp t σ Q (.ref a) H := ⟨a, dx, fs, rfl, h, hl, k⟩
def RetQ (x : Addr) (Q : VK) : VK := fun v H2 => v = .non ∧ Q (.ref x) H2
theorem retQ {x : Addr} (k : Q (.ref x) H) : RetQ x Q .non H := ⟨rfl, k⟩
def MkQ (C : Addr) (sp : Sp) (Q : VK) : List V → Hp → Prop := fun vs H1 => ∀ x dx, H1 x = none → H1 dx = none → dx ≠ x → sp (.ref x :: vs) (upd (upd H1 dx (.own x)) x (.ins C dx [])) (RetQ x Q) E0
theorem r_mk (k : t σ H (MkQ C sp Q)) : tMk C sp t σ H Q := k
theorem mkQ {vs : List V} (S : Ok F B L H) (k : ∀ x dx H', Ok F B ((x, .ins C dx []) :: L) H' → sp (.ref x :: vs) H' (RetQ x Q) E0) : MkQ C sp Q vs H := fun x dx hx hdx ne =>
  k x dx _ ((S.junk hdx).newL (by rw [upd_ne (fun z => ne z.symm)]; exact hx))
end
end WK
namespace WK
open PySem PySem.Spec PyProof.Rows L2
/-- a def called with its last parameters by default -/
def FnGD (P : Program) (w : World) (K : PySem.W.Frag) (mg : Str → Option Value) (base : Heap) (k : Nat) (x : Str) (ps : List Str) (dvs : List V) (sp : Sp) : Prop :=
  ∃ f fd ds, FnOk P w K mg base CX0 k f fd ps sp ∧ mg x = some (.ref f) ∧ PySem.W.keepIn K (.ref f) = true ∧ Binds K fd ps ds ∧ Vals dvs ds
def spD (sp : Sp) (dvs : List V) : Sp := fun vs H Q E => sp (vs ++ dvs) H Q E
section
variable {X : Cx} {k : Nat} {x : Str} {ps : List Str} {dvs : List V} {sp : Sp} {e : Expr} {es : List Expr} {p pos : Pos} {t : TA}
end
end WK
namespace WK
open PySem PySem.Spec PyProof.Rows L2
theorem Src.map {α β : Type} {J : It} {GB : Hp → Led → Prop} {as : List α} {g : α → β} {R : Hp → V → β → Prop} (s : Src J GB (as.map g) R) : Src J GB as (fun B x a => R B x (g a)) := by
  obtain ⟨G, Y, w, h1, h2⟩ := s.ex
  rw [List.length_map] at w h2
  refine ⟨G, Y, w, h1, fun F B L i H x H' S q y hi => ?_⟩
  obtain ⟨b, B', e, ex, S', r⟩ := h2 F B L i H x H' S q y hi
  rw [List.getElem?_map] at e
  obtain ⟨a, ha, rfl⟩ := Option.map_eq_some_iff.mp e
  exact ⟨a, B', ha, ex, S', r⟩
end WK
namespace WK
open PySem PySem.Spec PyProof.Rows L2
section
variable {o e : Expr} {es : List Expr} {to : TE} {t : TA} {name : Str} {apos cpos : Pos} {T id : String} {r : V → List V → Hp → VK → Prop} {X : Cx}
theorem pe_bmU (K : PySem.W.Frag) (pa : PlainAttrs T) (slot : Slot T name id) (hty : typeOf (.builtin id) = pure (.type "method_descriptor")) (hm : MtR X id r) (ho : PE X o to) (ha : PA X (e :: es) t)
    (hbase : attributeBase o name X.env (eval o X.env) = eval o X.env := by rfl)
    (hfew : ((backTo cpos (starEach (e :: es) X.env)).all (fun x => !x.1) && (backToKw cpos (keywordEach [] X.env)).all (fun x => x.1.isSome)
      && decide ((e :: es).length + ([] : List Keyword).length + (if ([] : List Keyword).isEmpty then 0 else 1) < 30)) = true := by rfl)
    (hline : (apos.endLine == cpos.line) = true := by rfl) (hs : starEach (e :: es) X.env = (false, eval e X.env) :: starEach es X.env := by rfl) (hplain : (backTo cpos (starEach es X.env)).any (·.1) = false := by rfl) (hK : X.K = K := by rfl) :
    PE X (.Call (.Attribute o name apos) (e :: es) [] cpos) (tBM K T r to t) := by
  subst hK
  exact pe_bm pa slot hty hm ho ha hbase hfew hline hs hplain
end
section
variable {K : PySem.W.Frag} {F : Ent} {B H : Hp} {L : Led} {σ : L2.St} {Q : VK} {to : TE} {t : TA} {T : String} {r : V → List V → Hp → VK → Prop} {v : V} {a : Addr}
def BmQ (K : PySem.W.Frag) (T : String) (r : V → List V → Hp → VK → Prop) (t : TA) (σ : L2.St) (Q : VK) : VK := fun x H1 => tyV K T x H1 ∧ t σ H1 fun xs H2 => r x xs H2 Q
theorem r_bm (k : to σ H (BmQ K T r t σ Q)) : tBM K T r to t σ H Q := k
theorem r_bm0 (k : to σ H (BmQ K T r tNil σ Q)) : tBM0 K T r to σ H Q := k
theorem bmS {z : Str} (k : t σ H fun xs H2 => r (.str z) xs H2 Q) : BmQ K "str" r t σ Q (.str z) H := ⟨rfl, k⟩
theorem bmL {xs : List V} (h : SqL K H a xs) (k : t σ H fun xs H2 => r (.ref a) xs H2 Q) : BmQ K "list" r t σ Q (.ref a) H := ⟨.inl ⟨rfl, xs, h⟩, k⟩
theorem bmD {kvs : List (Key × V)} (h : H a = some (.dK kvs)) (k : t σ H fun xs H2 => r (.ref a) xs H2 Q) : BmQ K "dict" r t σ Q (.ref a) H := ⟨.inr (.inr (.inl ⟨rfl, .inl ⟨kvs, h⟩⟩)), k⟩
end
end WK

namespace WK
open PySem PySem.Spec PyProof.Rows L2
/-! ### data that can be told apart -/
theorem lay_all {ds : List PyData} (h : ∀ d ∈ ds, d.canLay0 = true) : PyData.canLayAll0 ds = true := by
  induction ds with
  | nil => rfl
  | cons d ds ih =>
    show (d.canLay0 && PyData.canLayAll0 ds) = true
    rw [h d (.head _), ih fun x hx => h x (.tail _ hx)]
    rfl
theorem depth_all {ds : List PyData} {n : Nat} (h : ∀ d ∈ ds, d.depth ≤ n) : PyData.depthAll ds ≤ n := by
  induction ds with
  | nil => exact Nat.zero_le _
  | cons d ds ih =>
    show max d.depth (PyData.depthAll ds) ≤ n
    exact Nat.max_le.mpr ⟨h d (.head _), ih fun x hx => h x (.tail _ hx)⟩
/-- shaped, with its depth -/
def Shp (n : Nat) (d : PyData) : Prop := d.canLay0 = true ∧ d.depth ≤ n
theorem Shp.lst {n : Nat} {ds : List PyData} (h : ∀ d ∈ ds, Shp n d) : Shp (n + 1) (.list ds) := ⟨lay_all fun d hd => (h d hd).1, Nat.succ_le_succ (depth_all fun d hd => (h d hd).2)⟩
theorem Shp.tup {n : Nat} {ds : List PyData} (h : ∀ d ∈ ds, Shp n d) : Shp (n + 1) (.tuple ds) := ⟨lay_all fun d hd => (h d hd).1, Nat.succ_le_succ (depth_all fun d hd => (h d hd).2)⟩
theorem Shp.int {n : Nat} {i : Int} : Shp n (.int i) := ⟨rfl, Nat.zero_le _⟩
theorem Shp.bl {n : Nat} {i : Bool} : Shp n (.bool i) := ⟨rfl, Nat.zero_le _⟩
theorem Shp.str {n : Nat} {z : Str} (h : z.cps.all (· < 0x110000) = true) : Shp n (.str z) := ⟨h, Nat.zero_le _⟩
theorem Shp.ok {n : Nat} {d : PyData} (h : Shp n d) (hn : n ≤ 64) : SeqAt.shaped d = true := by
  unfold SeqAt.shaped
  rw [h.1, decide_eq_true (Nat.le_trans h.2 hn)]
  rfl
section
variable {P : Program} {w : World} {K : PySem.W.Frag} {H B : Hp} {Q : VK} {F : Ent} {L : Led} {x y : V} {d : PyData} {n : Nat}
theorem _root_.L2.DpAll.take {vs : List V} {ds : List PyData} (h : DpAll K B vs ds) (j : Nat) : DpAll K B (vs.take j) (ds.take j) := by
  induction j generalizing vs ds with
  | zero => exact .nil
  | succ j ih =>
    cases h with
    | nil => exact .nil
    | cons h t => exact .cons h (ih t)
theorem _root_.L2.DpAll.drop {vs : List V} {ds : List PyData} (h : DpAll K B vs ds) (j : Nat) : DpAll K B (vs.drop j) (ds.drop j) := by
  induction j generalizing vs ds with
  | zero => exact h
  | succ j ih =>
    cases h with
    | nil => exact .nil
    | cons h t => exact ih t
theorem _root_.L2.DpAll.rev {vs : List V} {ds : List PyData} (h : DpAll K B vs ds) : DpAll K B vs.reverse ds.reverse := by
  induction vs generalizing ds with
  | nil => cases h; exact .nil
  | cons v vs ih =>
    cases h with
    | cons h t =>
      rw [List.reverse_cons, List.reverse_cons]
      exact (ih t).append (.cons h .nil)
/-- e[::-1] of a list -/
def RevQ (K : PySem.W.Frag) (Q : VK) : VK := fun x H1 => ∃ a xs, x = .ref a ∧ SqL K H1 a xs ∧ ∀ p, H1 p = none → Q (.ref p) (upd H1 p (.lst xs.reverse))
theorem r_revL {te : TE} {σ : L2.St} (k : te σ H (RevQ K Q)) : tRevL K te σ H Q := k
theorem revD {ds : List PyData} (S : Ok F B L H) (h : Dp K B x (.list ds)) (k : ∀ r B' H', Ex B B' → Ok F B' L H' → Dp K B' r (.list ds.reverse) → Q r H') : RevQ K Q x H := by
  obtain ⟨a, xs, rfl, hq, ha⟩ := Dp.lst_inv h
  refine ⟨a, xs, rfl, S.sqB hq, fun p hp => ?_⟩
  obtain ⟨B', e, S', hD⟩ := (S.newL (o := .lst xs.reverse) hp).toData ha.rev
  exact k _ _ _ e S' hD
/-! dicts -/
theorem merge_new {acc kvs : List (Key × V)} (nd : ((acc ++ kvs).map (·.1)).Nodup) : mergeK acc kvs = acc ++ kvs := by
  induction kvs generalizing acc with
  | nil => rw [List.append_nil]; rfl
  | cons p kvs ih =>
    have e : acc ++ p :: kvs = (acc ++ [p]) ++ kvs := by rw [List.append_assoc]; rfl
    have h1 : valV acc p.1 = none := valV_none fun z => by
      rw [List.map_append] at nd
      have := (List.nodup_append.mp nd).2.2 _ z p.1 (by simp)
      exact this rfl
    show mergeK (putK acc p.1 p.2) kvs = _
    rw [putK_new _ h1, e]
    exact ih (by rw [← e]; exact nd)
/-- dict(a list of pairs), the keys all new -/
theorem v_dictP {a : Addr} {ps : List Addr} {kvs : List (Key × V)} (S : Ok F B L H) (h : SqL K H a (ps.map V.ref)) (hp : Paired (fun p (kv : Key × V) => SqT K H p [kV kv.1, kv.2]) ps kvs) (nd : (kvs.map (·.1)).Nodup)
    (k : ∀ D H', Ok F B ((D, .dK kvs) :: L) H' → Q (.ref D) H') : CallU P w K (.type "dict") [.ref a] H Q := by
  refine .ofK (r := fun K xs H Q => ∃ (a : Addr) (ps : List Addr) (kvs : List (Key × V)), xs = [.ref a] ∧ SqL K H a (ps.map V.ref) ∧ Paired (fun p kv => SqT K H p [kV kv.1, kv.2]) ps kvs ∧ ∀ p, H p = none → Q (.ref p) (upd H p (.dK (mergeK [] kvs))))
    (fun _ al => call_dictP al.calm) ⟨a, ps, kvs, rfl, h, hp, fun D hD => ?_⟩
  rw [merge_new (acc := []) nd]
  exact k D _ (S.newL hD)
theorem inr_nodup {names : List Str} (h : names.Nodup) : (names.map (Sum.inr : Str → Key)).Nodup := by
  induction names with
  | nil => exact List.nodup_nil
  | cons s r ih =>
    obtain ⟨h1, h2⟩ := List.nodup_cons.mp h
    refine List.nodup_cons.mpr ⟨fun z => ?_, ih h2⟩
    obtain ⟨x, hx, e⟩ := List.mem_map.mp z
    exact h1 (Sum.inr.inj e ▸ hx)
/-- what a value leads to may be locked behind it -/
def FrzQ (Q : VK) : VK := fun v H' => Q v H' ∨ ∃ d u, H' d = some u ∧ Mut (some u) ∧ ∀ od, Q v (upd H' d (.frz od u))
def tFrzA (t : TE) : TE := fun σ H Q => t σ H (FrzQ Q)
theorem r_frzA {t : TE} {σ : L2.St} (k : t σ H (FrzQ Q)) : tFrzA t σ H Q := k
end
end WK
namespace WK
open PySem PySem.Spec PyProof.Rows L2
/-! cuts -/
def tCut (t : TE) : TE := fun σ H Q => ∃ R : VK, t σ H R ∧ ∀ v H', R v H' → Q v H'
def tCutS (t : TS) : TS := fun D σ H => ∃ N : L2.St → Hp → Prop, t { D with nx := N } σ H ∧ ∀ σ' H', N σ' H' → D.nx σ' H'
theorem ps_cut {X : Cx} {st : Stmt} {t : TS} (h : PS X st t) : PS X st (tCutS t) := by
  refine ⟨fun pins s σ H D I hw => ?_⟩
  obtain ⟨N, h1, h2⟩ := hw
  refine thn (h.run pins s σ H _ I h1) fun fl s' q => ?_
  cases fl with
  | next =>
    obtain ⟨σ', H', I', q⟩ := q
    exact ⟨σ', H', I', h2 _ _ q⟩
  | ret v => exact q
  | brk => exact q
  | cont => exact q
theorem cutS {t : TS} {σ : L2.St} {H : Hp} {D : Ends} (N : L2.St → Hp → Prop) (h : t { D with nx := N } σ H) (k : ∀ σ' H', N σ' H' → D.nx σ' H') : tCutS t D σ H := ⟨N, h, k⟩
end WK
namespace WK
open PySem PySem.Spec PyProof.Rows L2
/-- a comprehension over a list of data, any invariant -/
theorem lcDL {α : Type} {F : Ent} {B H1 : Hp} {L : Led} {σ : L2.St} {K : PySem.W.Frag} {P : Program} {w : World} {tg : Expr} {as : List α} {enc : α → PyData} {v : V} {g : TG} {tt : TT} {te : TE} {vs : List Nat} {Q : VK} (S : Ok F B L H1) (h : Dp K B v (.list (as.map enc))) (I : Nat → List V → Hp → Led → Prop) (h0 : I 0 [] B L)
    (hs : ∀ i a x acc B0 B1 L D H, as[i]? = some a → I i acc B0 L → Ex B B0 → Ex B0 B1 → Ok F B1 ((D, .lst acc) :: L) H → Dp K B1 x (enc a) → g x (wipe σ vs) H fun σ2 H2 => wipe σ2 vs = wipe σ vs ∧ tt σ2 H2 fun b H3 =>
      if b = true then te σ2 H3 (Acc F (fun acc B1 L1 => Ex B B1 ∧ I (i + 1) acc B1 L1) D) else Skp F (fun acc B1 L1 => Ex B B1 ∧ I (i + 1) acc B1 L1) D H3)
    (hd : ∀ acc B1 L D H, I as.length acc B1 L → Ex B B1 → Ok F B1 ((D, .lst acc) :: L) H → Q (.ref D) H) : ItU P w K tg v H1 (LcW g tt te vs σ Q) := by
  obtain ⟨a, xs, rfl, hq, ha⟩ := Dp.lst_inv h
  refine ItU.list (S.sqB hq) (lcD (src_lst (xs := xs) (as := as) (enc := enc)) S (fun i acc B1 L1 => Ex B B1 ∧ I i acc B1 L1) ⟨Ex.refl _, h0⟩ ?_ ?_ ?_)
  · rintro i acc B1 L1 D _ ⟨e, _⟩
    exact ⟨.inl (e.sqL hq), ha.up e⟩
  · rintro i a x acc B0 B1 L1 D H hget ⟨e, q⟩ e1 S1 hx
    exact hs i a x acc B0 B1 L1 D H hget q e e1 S1 hx
  · rintro acc B1 L1 D H ⟨e, q⟩ S1
    exact hd acc B1 L1 D H q e S1
end WK

namespace WK
open PySem PySem.Spec PyProof.Rows L2 PySem.W PySem.Calls
/-! a, *r = a list -/
section
variable {X : Cx} {pos : Pos}
def gStar (K : PySem.W.Frag) (n i : Nat) (t : TGs) : TG := fun v σ H Q => ∃ a xs, v = .ref a ∧ SqL K H a xs ∧ n ≤ xs.length + 1 ∧ xs.length ≤ 16384 ∧
  ∀ p, H p = none → t (xs.take i ++ [.ref p] ++ (xs.drop i).drop (xs.length + 1 - n)) σ (upd H p (.lst ((xs.drop i).take (xs.length + 1 - n)))) Q
end
end WK
namespace WK
open PySem PySem.Spec PyProof.Rows L2
end WK
namespace WK
open PySem PySem.Spec PyProof.Rows L2
/-! texts -/
def numS (i : Int) : Str := (toString i : String)
section
variable {P : Program} {w : World} {K : PySem.W.Frag} {H B : Hp} {Q : VK} {F : Ent} {L : Led} {x : V}
end
end WK
namespace WK
open PySem PySem.Spec PyProof.Rows L2
theorem v_extendN {P : Program} {w : World} {K : PySem.W.Frag} {F : Ent} {B H : Hp} {L : Led} {Q : VK} {p b : Addr} {xs zs : List V} (n : Nat) (S : Ok F B L H) (h : L[n]? = some (p, .lst xs)) (hb : H b = some (.lst zs)) (hz : xs.length + zs.length ≤ sizeLine)
    (k : ∀ H', Ok F B (L.set n (p, .lst (xs ++ zs))) H' → Q .non H') : MetU P w K "list.extend" (.ref p) [.ref b] H Q :=
  .of (fun _ _ => mt_extend) ⟨p, b, xs, zs, rfl, rfl, (S.own _ (List.mem_of_getElem? h)).1, hb, hz, k _ (S.mutN n h)⟩
end WK
namespace WK
open PySem PySem.Spec PyProof.Rows L2
end WK

namespace WK
open PySem PySem.Spec PyProof.Rows L2
theorem r_rU {g : Int → V} {i : Int} {H : Hp} {Q : VK} (k : Q (g i) H) : rU g (.int i) H Q := ⟨i, rfl, k⟩
/-! lists compared by their lengths -/
section
variable {X : Cx}
theorem op_eqLen (hu : X.A.units + 64 < cLine) : OpR X (compareOp .Eq) (fun x y H Q => ∃ a b xs ys, x = .ref a ∧ y = .ref b ∧ SqL X.K H a xs ∧ SqL X.K H b ys ∧ (xs.length ≠ ys.length ∨ (xs = [] ∧ ys = [])) ∧ Q (.bl (decide (xs.length = ys.length))) H) := by
  intro pins s σ H x y v u Q I rx ry h
  obtain ⟨a, b, xs, ys, rfl, rfl, h1, h2, h3, q⟩ := h
  cases rx
  cases ry
  obtain ⟨is, r1, p1, _⟩ := I.list h1
  obtain ⟨js, r2, p2, _⟩ := I.list h2
  have l1 := r1.length
  have l2 := r2.length
  rcases h3 with h3 | ⟨rfl, rfl⟩
  · refine SeqAt.eq_list_lengthsAt p1.isList p2.isList (by simp only [List.size_toArray, bne_iff_ne, ne_eq]; omega) (by omega) ⟨.bl _, H, I, rfl, ?_⟩
    rw [decide_eq_false h3] at q
    exact q
  · have e1 : is = [] := List.eq_nil_of_length_eq_zero (by rw [← l1]; rfl)
    have e2 : js = [] := List.eq_nil_of_length_eq_zero (by rw [← l2]; rfl)
    subst e1
    subst e2
    refine SeqAt.eq_listAt (e := fun _ => true) p1.isList p2.isList rfl (by omega) (fun j j1 j2 => absurd j1 (Nat.not_lt_zero _)) ⟨.bl _, H, I, rfl, q⟩
theorem op_neLen (hu : X.A.units + 64 < cLine) : OpR X (compareOp .NotEq) (fun x y H Q => ∃ a b xs ys, x = .ref a ∧ y = .ref b ∧ SqL X.K H a xs ∧ SqL X.K H b ys ∧ (xs.length ≠ ys.length ∨ (xs = [] ∧ ys = [])) ∧ Q (.bl (!decide (xs.length = ys.length))) H) := by
  intro pins s σ H x y v u Q I rx ry h
  obtain ⟨a, b, xs, ys, rfl, rfl, h1, h2, h3, q⟩ := h
  cases rx
  cases ry
  obtain ⟨is, r1, p1, _⟩ := I.list h1
  obtain ⟨js, r2, p2, _⟩ := I.list h2
  have l1 := r1.length
  have l2 := r2.length
  rcases h3 with h3 | ⟨rfl, rfl⟩
  · refine (SeqAt.RcNeAt.lists_lengths p1.isList p2.isList (by simp only [List.size_toArray, bne_iff_ne, ne_eq]; omega) (by omega)) X.prog X.w X.xe _ ⟨.bl _, H, I, rfl, ?_⟩
    rw [decide_eq_false h3] at q
    exact q
  · have e1 : is = [] := List.eq_nil_of_length_eq_zero (by rw [← l1]; rfl)
    have e2 : js = [] := List.eq_nil_of_length_eq_zero (by rw [← l2]; rfl)
    subst e1
    subst e2
    refine (SeqAt.RcNeAt.lists (e := fun _ => true) p1.isList p2.isList rfl (by omega) (fun j j1 j2 => absurd j1 (Nat.not_lt_zero _))) X.prog X.w X.xe _ ⟨.bl _, H, I, rfl, q⟩
end
section
variable {P : Program} {w : World} {K : PySem.W.Frag} {H : Hp} {Q : VK} {a b : Addr} {xs ys : List V}
theorem v_eqLen (h1 : SqL K H a xs) (h2 : SqL K H b ys) (h3 : xs.length ≠ ys.length ∨ (xs = [] ∧ ys = [])) (k : Q (.bl (decide (xs.length = ys.length))) H) : OpU P w K (compareOp .Eq) (.ref a) (.ref b) H Q :=
  .ofK (r := fun K x y H Q => ∃ a b xs ys, x = .ref a ∧ y = .ref b ∧ SqL K H a xs ∧ SqL K H b ys ∧ (xs.length ≠ ys.length ∨ (xs = [] ∧ ys = [])) ∧ Q (.bl (decide (xs.length = ys.length))) H) (fun _ al => op_eqLen al.hu64) ⟨a, b, xs, ys, rfl, rfl, h1, h2, h3, k⟩
theorem v_neLen (h1 : SqL K H a xs) (h2 : SqL K H b ys) (h3 : xs.length ≠ ys.length ∨ (xs = [] ∧ ys = [])) (k : Q (.bl (!decide (xs.length = ys.length))) H) : OpU P w K (compareOp .NotEq) (.ref a) (.ref b) H Q :=
  .ofK (r := fun K x y H Q => ∃ a b xs ys, x = .ref a ∧ y = .ref b ∧ SqL K H a xs ∧ SqL K H b ys ∧ (xs.length ≠ ys.length ∨ (xs = [] ∧ ys = [])) ∧ Q (.bl (!decide (xs.length = ys.length))) H) (fun _ al => op_neLen al.hu64) ⟨a, b, xs, ys, rfl, rfl, h1, h2, h3, k⟩
end
end WK
namespace WK
open PySem PySem.Spec PyProof.Rows L2
section
variable {F : Ent} {B H : Hp} {L : Led}
end
/-- one of two promises -/
def spOr (a b : Sp) : Sp := fun vs H Q E => a vs H Q E ∨ b vs H Q E
end WK
namespace WK
open PySem PySem.Spec PyProof.Rows L2
section
variable {X : Cx}
theorem op_neTNil (hu : X.A.units + 64 < cLine) : OpR X (compareOp .NotEq) (fun x y H Q => ∃ a b xs, x = .ref a ∧ y = .ref b ∧ SqT X.K H a xs ∧ SqT X.K H b [] ∧ Q (.bl (!xs.isEmpty)) H) := by
  intro pins s σ H x y v u Q I rx ry h
  obtain ⟨a, b, xs, rfl, rfl, h1, h2, q⟩ := h
  cases rx
  cases ry
  obtain ⟨is, r1, p1, _⟩ := I.tuple h1
  obtain ⟨js, r2, p2, _⟩ := I.tuple h2
  have l1 := r1.length
  have e2 : js = [] := List.eq_nil_of_length_eq_zero (by rw [← r2.length]; rfl)
  subst e2
  have e : ((List.range (min is.toArray.size (#[] : Array Value).size)).all (fun _ => true) && is.toArray.size == (#[] : Array Value).size) = xs.isEmpty := by
    cases xs with
    | nil =>
      have : is = [] := List.eq_nil_of_length_eq_zero (by rw [← l1]; rfl)
      subst this
      rfl
    | cons x xs =>
      cases is with
      | nil => simp at l1
      | cons i is => simp
  refine (SeqAt.RcNeAt.tuples (e := fun _ => true) (show s.heap.IsTuple a is.toArray from p1) (show s.heap.IsTuple b #[] from p2) (by omega) (fun j j1 j2 => absurd j2 (Nat.not_lt_zero _))) X.prog X.w X.xe _ ⟨.bl _, H, I, rfl, ?_⟩
  rw [e]
  exact q
end
section
variable {P : Program} {w : World} {K : PySem.W.Frag} {F : Ent} {B H : Hp} {L : Led} {Q : VK} {a b p : Addr} {xs : List V}
theorem v_neTNil (h1 : SqT K H a xs) (h2 : SqT K H b []) (k : Q (.bl (!xs.isEmpty)) H) : OpU P w K (compareOp .NotEq) (.ref a) (.ref b) H Q :=
  .ofK (r := fun K x y H Q => ∃ a b xs, x = .ref a ∧ y = .ref b ∧ SqT K H a xs ∧ SqT K H b [] ∧ Q (.bl (!xs.isEmpty)) H) (fun _ al => op_neTNil al.hu64) ⟨a, b, xs, rfl, rfl, h1, h2, k⟩
theorem v_neTNilD {v : V} {ds : List PyData} (S : Ok F B L H) (h1 : Dp K B v (.tuple ds)) (h2 : SqT K H b []) (k : Q (.bl (!ds.isEmpty)) H) : OpU P w K (compareOp .NotEq) v (.ref b) H Q := by
  obtain ⟨a, xs, rfl, hq, ha⟩ := Dp.tup_inv h1
  refine v_neTNil (S.tqB hq) h2 ?_
  have e : xs.isEmpty = ds.isEmpty := by
    cases ha with
    | nil => rfl
    | cons _ _ => rfl
  rw [e]
  exact k
end
end WK

namespace WK
open PySem PySem.Spec PyProof.Rows L2
/-! enumerate over a list or a tuple -/
theorem isT_of {h : Heap} {a : Addr} {its : List Value} (p : IsTup h a its.toArray) : h.IsTuple a its.toArray := p
set_option maxHeartbeats 1000000 in
theorem enumNew1 {v : Value} {ob : Obj} {C : Heap → Prop} (Bg : Begins v ob C) :
    Meets (Builtin.«enumerate.__new__» ⟨[.type "enumerate", v], []⟩) (fun _ R sh => C sh.heap ∧ R (.ok (.ret (.ref (sh.heap.push ob).objs.size)))
      { sh with heap := (sh.heap.push ob).push { cls := .type "enumerate", data := .fields #[.none, .bool false, .ref sh.heap.objs.size, rawInt 0, .none, .none] } }) :=
  .of_wp fun pg wd Ar R sh hh => by
    obtain ⟨hp, gs, dr, tks, osx⟩ := sh; obtain ⟨hC, hR⟩ := hh
    have hs1 := sub_enumerate
    have itr : ∀ {A' : Around} {E' : Value → Shared → Prop} {Q' : Value → Shared → Prop}, Q' (.ref hp.objs.size) ⟨hp.push ob, gs, dr, tks, osx⟩ → wpAny (model pg wd) A' (pyIter v) Q' E' ⟨hp, gs, dr, tks, osx⟩ := fun q => Bg.iter pg wd _ _ ⟨hp, gs, dr, tks, osx⟩ _ hC q
    wp_walk using itr
    refine wpAny_stack_any fun stk => wpAny_pure ?_
    split
    · rename_i cc _ _ _ _ _
      cases (cc == Value.type "enumerate") <;> (wp_walk using itr; exact ⟨_, rfl, hR⟩)
    · wp_walk using itr
      exact ⟨_, rfl, hR⟩
theorem callEnum1 {P : Program} {w : World} {A : Around} {E : Value → Shared → Prop} {s : Shared} {v : Value} {ob : Obj} {C : Heap → Prop} {Q : Value → Shared → Prop} (Bg : Begins v ob C) (hC : C s.heap)
    (h : ∀ h', IsEnum h' (s.heap.objs.size + 1) s.heap.objs.size 0 .none → h'.get? s.heap.objs.size = some ob → (∀ b o, s.heap.get? b = some o → h'.get? b = some o) → Q (.ref (s.heap.objs.size + 1)) { s with heap := h' }) :
    wpAny (model P w) A (call (.type "enumerate") [v]) Q E s := by
  have hz : (s.heap.push ob).objs.size = s.heap.objs.size + 1 := Heap.size_push ..
  have he : IsEnum ((s.heap.push ob).push { cls := .type "enumerate", data := .fields #[.none, .bool false, .ref s.heap.objs.size, rawInt 0, .none, .none] }) (s.heap.objs.size + 1) s.heap.objs.size 0 .none := by
    have e1 := Heap.get?_push_size (s.heap.push ob) (o := { cls := .type "enumerate", data := .fields #[.none, .bool false, .ref s.heap.objs.size, rawInt 0, .none, .none] }) rfl
    rw [hz] at e1
    exact e1
  refine callType_new F.called_enumerate (by decide) (F.typeCall_enumerate_1 v) (F.newCall_enumerate_1 v) (fun x => F.args_object_init_2 x v) F.entry_enumerate_new (enumNew1 Bg) ⟨hC, ?_⟩
  show _ ∧ _
  rw [hz]
  exact ⟨⟨_, he, rfl⟩, h _ he (Heap.get?_push_of_some _ (Heap.get?_push_size _ Bg.free)) fun b o x => Heap.get?_push_of_some _ (Heap.get?_push_of_some _ x)⟩
/-- the tuple at a, each item in a new pair -/
def Itet (K : PySem.W.Frag) (a : Addr) : It :=
  ⟨fun i H => ∃ (xs : List V) (x : V), SqT K H a xs ∧ xs[i]? = some x, fun i H v H' => ∃ T x, v = .ref T ∧ H T = none ∧ H' = upd H T (.tup [.int (i : Nat), x]) ∧ ∀ xs, SqT K H a xs → xs[i]? = some x, fun i H => ∃ xs : List V, SqT K H a xs ∧ xs.length ≤ i⟩
theorem turn_enumT {P : Program} {w : World} {K : PySem.W.Frag} {elts : List Expr} {kk : Nat} {tpos : Pos} (a e it : Addr) :
    Turn P w K (.Tuple elts kk tpos) (Itet K a) [e, it] e (fun i h => (∃ old, IsEnum h e it ((i : Nat) : Int) old) ∧ h.IsTupleIter it a i ∧ e ≠ it) where
  mem := by simp
  obj := fun i h st b hb => by
    obtain ⟨⟨od, h1⟩, ⟨ob, h2, h3, h4⟩, _⟩ := st
    rcases (show b = e ∨ b = it by simpa using hb) with z | z
    · rw [z]
      exact ⟨_, h1, fun v q => nomatch q⟩
    · rw [z]
      exact ⟨ob, h2, fun v q => by rw [h4] at q; cases q⟩
  keep := fun i h h' st kp => let ⟨⟨od, h1⟩, h2, h3⟩ := st; ⟨⟨od, kp e (by simp) _ h1⟩, h2.at fun o q => kp it (by simp) o q, h3⟩
  item := by
    intro X hP hw hK hc i pins s σ H E I hf st hg
    subst hP hw hK
    obtain ⟨⟨od, h1⟩, h2, hne⟩ := st
    obtain ⟨xs, x, hq, hx⟩ := hg
    obtain ⟨its, rv, p, hz⟩ := I.tuple hq
    obtain ⟨u0, hu0, ru0⟩ := rv.get hx
    have pT := isT_of p
    have hel : e < s.heap.objs.size := Heap.lt_size h1
    have hil : it < s.heap.objs.size := by obtain ⟨_, q, _⟩ := h2; exact Heap.lt_size q
    have nea : e ≠ a := fun z => by
      obtain ⟨o, q, c, _⟩ := pT
      rw [← z, h1] at q
      cases q
      exact absurd (show Value.type "enumerate" = Value.type "tuple" from c) (by decide)
    have nia : a ≠ it := fun z => by
      obtain ⟨o, q, c, _⟩ := pT
      obtain ⟨o2, q2, c2, _⟩ := h2
      rw [z, q2] at q
      cases q
      rw [c2] at c
      exact absurd c (by decide)
    have hlt : i < its.toArray.size := by
      have := (List.getElem?_eq_some_iff.mp hu0).1
      simpa using this
    refine wpAny_pyNext_enum_itemC (Draws.tuple (A := X.A.in1) (I.ok.hd hc) it a nia its.toArray) h1 ⟨h2, pT⟩ hlt hne (by simp [hne, nea]) fun u h' tk pu ho st' hT hsz hk => ?_
    have eu : u = u0 := by
      have e1 : its.toArray[i]? = some u0 := by simpa using hu0
      rw [e1] at pu
      exact (Option.some.inj pu).symm
    subst eu
    refine ⟨_, rfl, wpAny_letOwnedTupleGo_enum (s := { s with heap := h', toks := tk + 1 }) ho fun hb he' sb => ?_⟩
    have hT2 : hb.get? s.heap.objs.size = some { cls := .type "tuple", data := .seq #[.int i tk, u] } := (sb.2 _ (Nat.ne_of_gt hel)).trans hT
    have nw : ObjOk X.prog X.w (upd H s.heap.objs.size (.tup [.int (i : Nat), x])) hb s.heap.objs.size (.tup [.int (i : Nat), x]) := ⟨by show 2 ≤ sizeLine; decide, [.int i tk, u], .cons ⟨_, rfl⟩ (.cons ru0 .nil), ⟨_, hT2, rfl, _, rfl⟩⟩
    have J1 : Inv X pins σ (upd H s.heap.objs.size (.tup [.int (i : Nat), x])) { s with heap := hb, toks := tk + 1 } :=
      I.turnedNew (ch := [e, it]) (fun b ob hbm q => (sb.2 b (fun z => hbm (by simp [z]))).trans (hk b ob (fun z => hbm (by simp [z])) (fun z => hbm (by simp [z])) q)) hf (Nat.le_refl _) nw
    refine ⟨.ref s.heap.objs.size, _, J1, rfl, ⟨_, x, rfl, I.hok.fresh (Nat.le_refl _), rfl, fun ys hy => by rw [I.tuple_inj hy hq]; exact hx⟩, ⟨⟨u, ?_⟩, st'.1.at fun o q => (sb.2 it (Ne.symm hne)).trans q, hne⟩, fun b hbm => ?_⟩
    · rw [show ((i + 1 : Nat) : Int) = (i : Int) + 1 by omega]
      exact he'
    · have hlt' : b < s.heap.objs.size := by
        rcases (show b = e ∨ b = it by simpa using hbm) with z | z
        · rw [z]; exact hel
        · rw [z]; exact hil
      rw [upd_ne (Nat.ne_of_lt hlt')]
      exact (hf b hbm).1
  done := by
    intro X hP hw hK hc i pins s σ H E I hf st hg
    subst hP hw hK
    obtain ⟨⟨od, h1⟩, h2, hne⟩ := st
    obtain ⟨xs, hq, hx⟩ := hg
    obtain ⟨its, rv, p, hz⟩ := I.tuple hq
    have pT := isT_of p
    obtain ⟨f0, f1, f2, f3, f4, f5⟩ := hf it (by simp)
    have hl := rv.length
    have nia : a ≠ it := fun z => by
      obtain ⟨o, q, c, _⟩ := pT
      obtain ⟨o2, q2, c2, _⟩ := h2
      rw [z, q2] at q
      cases q
      rw [c2] at c
      exact absurd c (by decide)
    have fin : ∀ (s' : Shared) (E' : Value → Shared → Prop) (Q' : Value → Shared → Prop), s'.heap.IsTupleIter it a i → s'.heap.IsTuple a its.toArray → (∀ h' e', Heap.ExtBut it s'.heap h' → (∃ o, h'.get? e' = some o ∧ o.cls = .type "StopIteration") → E' (.ref e') { s' with heap := h' }) →
        wpAny (model X.prog X.w) X.A.in1 (Builtin.SmallTypes.nextOf (.ref it)) Q' E' s' := fun s' E' Q' a1 a2 a3 => wpAny_nextOf_tuple_end (I.ok.hd hc) a1 a2 (by simp; omega) a3
    have D : Draws X.prog X.w X.A.in1 it [it, a] i (fun _ _ => False) (fun j h => j = i ∧ h.IsTupleIter it a i ∧ h.IsTuple a its.toArray) :=
      { live := fun _ _ q => let ⟨o, ho, _⟩ := q.2.1; ⟨o, ho⟩
        frame := fun _ _ _ q kp => ⟨q.1, q.2.1.at fun o y => kp it (by simp) o y, q.2.2.at fun o y => kp a (by simp) o y⟩
        item := fun j s' Q' E' hj q _ => absurd q.1 (Nat.ne_of_lt hj)
        done := fun s' Q' E' q hE => fin s' E' Q' q.2.1 q.2.2 hE }
    exact wpAny_pyNext_enum_endD D h1 ⟨rfl, h2, pT⟩ fun h' eb => ⟨rfl, I.turned (t' := s.toks) (fun b o hb q => eb b o hb q) f0 f1 f3 f4 f5⟩
  self := fun A i s Q E st h => let ⟨⟨_, h1⟩, _⟩ := st; wpAny_pyIter_enum h1 h
def iEnumV (K : PySem.W.Frag) (ta : TA) : TI := fun σ H R => ta σ H fun vs H1 => ∃ a xs, vs = [.ref a] ∧ ((SqL K H1 a xs ∧ R (Ite K a) H1) ∨ (SqT K H1 a xs ∧ R (Itet K a) H1))
theorem pi_enumV {X : Cx} {e : Expr} {ta : TA} {p pos tpos : Pos} {elts : List Expr} {kk : Nat} (hg : Gl X "enumerate") (hm : X.mg "enumerate" = none) (ha : PA X [e] ta) (hs : starEach [e] X.env = [(false, eval e X.env)] := by rfl) :
    PI X (.Tuple elts kk tpos) (.Call (.Name "enumerate" p) [e] [] pos) (iEnumV X.K ta) := by
  refine ⟨fun pins s σ H R I h => ?_⟩
  refine Call_ (ld_blt I hg hm boot_enumerate (PyProof.Rows.callWith_type1 (thn (ha.run pos pins s σ H _ I h) fun us s1 ⟨vs, H1, I1, r1, q1⟩ => ?_) hs rfl))
  obtain ⟨a, xs, rfl, q⟩ := q1
  cases r1 with
  | cons r rr =>
    cases rr
    cases r
    have fpk : ∀ (b : Addr), b ∈ [s1.heap.objs.size + 1, s1.heap.objs.size] → FpOk X pins H1 b := fun b hb => by
      have hle : s1.heap.objs.size ≤ b := by
        rcases (show b = s1.heap.objs.size + 1 ∨ b = s1.heap.objs.size by simpa using hb) with z | z
        · rw [z]; exact Nat.le_add_right _ _
        · rw [z]; exact Nat.le_refl _
      exact I1.fpOk hle (I1.hok.fresh hle)
    rcases q with ⟨hq, q⟩ | ⟨hq, q⟩
    · obtain ⟨its, rv, p', hz⟩ := I1.list hq
      exact call_enumerate_list p'.isList fun h' he hit hsz hk => wpAny_pyIter_enum he ⟨s1.heap.objs.size + 1, _, _, _, H1, rfl, I1.kept (t' := s1.toks) hk, turn_enum a (s1.heap.objs.size + 1) s1.heap.objs.size, ⟨⟨.none, he⟩, hit, Nat.succ_ne_self _⟩, fpk, q⟩
    · obtain ⟨its, rv, p', hz⟩ := I1.tuple hq
      exact callEnum1 (begins_tuple a its.toArray) (isT_of p') fun h' he hit hk => wpAny_pyIter_enum he ⟨s1.heap.objs.size + 1, _, _, _, H1, rfl, I1.kept (t' := s1.toks) hk, turn_enumT a (s1.heap.objs.size + 1) s1.heap.objs.size, ⟨⟨.none, he⟩, ⟨_, hit, rfl, rfl⟩, Nat.succ_ne_self _⟩, fpk, q⟩
def EnvQ (K : PySem.W.Frag) (R : It → Hp → Prop) : List V → Hp → Prop := fun vs H1 => ∃ a xs, vs = [.ref a] ∧ ((SqL K H1 a xs ∧ R (Ite K a) H1) ∨ (SqT K H1 a xs ∧ R (Itet K a) H1))
theorem r_enumV {K : PySem.W.Frag} {σ : L2.St} {H : Hp} {R : It → Hp → Prop} {ta : TA} (k : ta σ H (EnvQ K R)) : iEnumV K ta σ H R := k
section
variable {α : Type} {K : PySem.W.Frag} {a : Addr} {xs : List V}
theorem walk_enumT : Walk (Itet K a) xs.length (fun H => SqT K H a xs) fun i H x H' => ∃ T y, x = .ref T ∧ H T = none ∧ H' = upd H T (.tup [.int (i : Nat), y]) ∧ xs[i]? = some y where
  goes := fun i H hi g => ⟨xs, _, g, List.getElem?_eq_getElem hi⟩
  stops := fun H g => ⟨xs, g, Nat.le_refl _⟩
  yields := fun i H x H' hi g y => by
    obtain ⟨T, z, e1, e2, e3, e4⟩ := y
    exact ⟨T, z, e1, e2, e3, e4 xs g⟩
/-- one's own list that is walked with its places -/
abbrev PrE (K : PySem.W.Frag) (enc : α → PyData) : Hp → V → α × Nat → Prop := fun B x y => ∃ T u, x = .ref T ∧ B T = some (.tup [.int (y.2 : Nat), u]) ∧ Dp K B u (enc y.1)
theorem src_enumT {as : List α} {enc : α → PyData} : Src (Itet K a) (fun B _ => SqT K B a xs ∧ DpAll K B xs (as.map enc)) as.zipIdx (PrE K enc) := by
  by_cases hl : xs.length = as.length
  · refine ⟨_, _, (by rw [List.length_zipIdx]; exact hl ▸ walk_enumT (xs := xs)), fun F B L H S g => S.tqB g.1, fun F B L i H x H' S g y hi => ?_⟩
    obtain ⟨T, y', rfl, n, rfl, e2⟩ := y
    obtain ⟨d, hd, hx⟩ := g.2.get e2
    rw [List.getElem?_map] at hd
    cases e : as[i]? with
    | none => rw [e] at hd; cases hd
    | some z =>
      rw [e] at hd
      cases hd
      exact ⟨(z, i), upd B T (.tup [.int (i : Nat), y']), getElem_zipIdx e, S.exB n, S.newB n, T, y', rfl, upd_same, hx.up (S.exB n)⟩
  · refine ⟨fun _ => False, fun _ _ _ _ => False, ⟨fun _ _ _ h => h.elim, fun _ h => h.elim, fun _ _ _ _ _ h => h.elim⟩, fun F B L H S g => hl ?_, fun F B L i H x H' S g y hi => y.elim⟩
    have := g.2.length
    rw [List.length_map] at this
    exact this
theorem Src.weak {J : It} {GB GB' : Hp → Led → Prop} {as : List α} {R : Hp → V → α → Prop} (s : Src J GB as R) (h : ∀ B L, GB' B L → GB B L) : Src J GB' as R := by
  obtain ⟨G, Y, wk, h1, h2⟩ := s.ex
  exact ⟨G, Y, wk, fun F B L H S g => h1 F B L H S (h B L g), fun F B L i H x H' S g => h2 F B L i H x H' S (h B L g)⟩
/-- data walked with places: a list or a tuple -/
theorem enuD {F : Ent} {B H : Hp} {L : Led} {R : It → Hp → Prop} {as : List α} {enc : α → PyData} {v : V} (S : Ok F B L H) (h : Dp K B v (.list (as.map enc)) ∨ Dp K B v (.tuple (as.map enc)))
    (k : ∀ J, Src J (fun B' _ => Ex B B') as.zipIdx (PrE K enc) → R J H) : EnvQ K R [v] H := by
  rcases h with h | h
  · obtain ⟨a, xs, rfl, hq, ha⟩ := Dp.lst_inv h
    exact ⟨a, xs, rfl, .inl ⟨S.sqB hq, k _ (src_enum.weak fun B' L' (e : Ex B B') => ⟨.inl (e.sqL hq), ha.up e⟩)⟩⟩
  · obtain ⟨a, xs, rfl, hq, ha⟩ := Dp.tup_inv h
    exact ⟨a, xs, rfl, .inr ⟨S.tqB hq, k _ (src_enumT.weak fun B' L' (e : Ex B B') => ⟨e.sqT hq, ha.up e⟩)⟩⟩
end
end WK

namespace WK
open PySem PySem.Spec PyProof.Rows L2
theorem pe_bt {X : Cx} {x : Str} {n : String} {pos : Pos} (hm : X.mg x = none) (hv : bootBuiltins x = some (.type n)) (hg : Gl X x) (hn : x ≠ "__name__" := by decide) (hd : (x == ("__debug__" : Str)) = false := by decide) : PE X (.Name x pos) (tC (.ty n)) :=
  pe_bltn hg hm hv (show RelV (.ty n) (.type n) from rfl) hn hd
/-! isinstance of data -/
def tyD : PyData → String
  | .none => "NoneType"
  | .bool _ => "bool"
  | .int _ => "int"
  | .str _ => "str"
  | .list _ => "list"
  | .tuple _ => "tuple"
  | _ => ""
def isT (a b : String) : Bool := a == b || (a == "bool" && b == "int")
section
variable {P : Program} {w : World} {K : PySem.W.Frag} {F : Ent} {B H : Hp} {L : Led} {Q : VK} {v : V} {d : PyData} {a : Addr} {xs : List V}
theorem tyx_L (h : SqL K H a xs) : TyX K H (.ref a) (.type "list") := by
  rcases h with (h | ⟨o, h⟩) | ⟨o, _, _, e, c, _⟩
  · exact .base (.lst h)
  · exact .base (.frz h)
  · exact .kList e c
theorem tyx_T (h : SqT K H a xs) : TyX K H (.ref a) (.type "tuple") := by
  rcases h with (h | ⟨o, h⟩) | ⟨o, _, _, e, c, _⟩
  · exact .base (.tup h)
  · exact .fTuple h
  · exact .kTuple e c
theorem tyx_D (h : Dp K H v d) : TyX K H v (.type (tyD d)) := by
  cases h with
  | non => exact .base .non
  | bl b => exact .base (.bl b)
  | int i => exact .base (.int i)
  | str x => exact .base (.str x)
  | lst h _ => exact tyx_L h
  | tup h _ => exact tyx_T h
abbrev kTypes : List String := ["list", "tuple", "str", "int", "bool"]
theorem kitB_D (h : Dp K H v d) {T : String} (hT : T ∈ kTypes) : kitB (tyD d) T = some (isT (tyD d) T) := by
  have key : ∀ a ∈ ["NoneType", "bool", "int", "str", "list", "tuple"], ∀ b ∈ kTypes, kitB a b = some (isT a b) := by decide +kernel
  refine key (tyD d) ?_ T hT
  cases h <;> simp [tyD]
theorem v_isiD {T : String} (S : Ok F B L H) (h : Dp K B v d) (hT : T ∈ kTypes) (k : Q (.bl (isT (tyD d) T)) H) : CallU P w K (.builtin "isinstance") [v, .ty T] H Q :=
  .ofK (r := rIsi) (fun _ _ => call_isi) ⟨v, .ty T, .type (tyD d), .type T, _, rfl, .ty T, tyx_D (S.dp h), kit_ty (kitB_D h hT), k⟩
theorem v_isiTL {p : Addr} (S : Ok F B L H) (h : Dp K B v d) (hp : B p = some (.tup [.ty "tuple", .ty "list"])) (k : Q (.bl (isT (tyD d) "tuple" || isT (tyD d) "list")) H) : CallU P w K (.builtin "isinstance") [v, .ref p] H Q := by
  refine .ofK (r := rIsiT) (fun _ _ => call_isiT) ⟨v, p, [.ty "tuple", .ty "list"], .type (tyD d), [.type "tuple", .type "list"], _, rfl, S.stay hp, .cons (.ty _) (.cons (.ty _) .nil), tyx_D (S.dp h), ?_, k⟩
  refine kitAny_cons (kit_ty (kitB_D h (by decide))) (fun e => kitAny_cons (kit_ty (kitB_D h (by decide))) (fun e2 => ?_) (fun e2 => ?_)) (fun e => ?_)
  · rw [e, e2]
    exact kitAny_nil
  · rw [e2, Bool.or_true]
  · rw [e, Bool.true_or]
end
/-- what may be compared place by place -/
def AlOk : Nat → PyData → Prop
  | _, .none => True
  | _, .bool _ => True
  | _, .int _ => True
  | _, .str _ => True
  | n + 1, .list ds => ds.length ≤ 100000 ∧ ∀ d ∈ ds, AlOk n d
  | n + 1, .tuple ds => ds.length ≤ 100000 ∧ ∀ d ∈ ds, AlOk n d
  | _, _ => False
theorem AlOk.lst {n : Nat} {ds : List PyData} (h : ds.length ≤ 100000) (k : ∀ d ∈ ds, AlOk n d) : AlOk (n + 1) (.list ds) := ⟨h, k⟩
theorem AlOk.tup {n : Nat} {ds : List PyData} (h : ds.length ≤ 100000) (k : ∀ d ∈ ds, AlOk n d) : AlOk (n + 1) (.tuple ds) := ⟨h, k⟩
theorem AlOk.int {n : Nat} {i : Int} : AlOk n (.int i) := by cases n <;> exact True.intro
theorem AlOk.str {n : Nat} {z : Str} : AlOk n (.str z) := by cases n <;> exact True.intro
theorem AlOk.bl {n : Nat} {b : Bool} : AlOk n (.bool b) := by cases n <;> exact True.intro
theorem AlOk.non {n : Nat} : AlOk n .none := by cases n <;> exact True.intro
end WK
namespace WK
open PySem PySem.Spec PyProof.Rows L2
/-- data in a list or a tuple -/
def Dpl (K : PySem.W.Frag) (B : Hp) (v : V) (ds : List PyData) : Prop := Dp K B v (.list ds) ∨ Dp K B v (.tuple ds)
theorem Dpl.up {K : PySem.W.Frag} {B B' : Hp} {v : V} {ds : List PyData} (e : Ex B B') (h : Dpl K B v ds) : Dpl K B' v ds := h.elim (fun h => .inl (h.up e)) fun h => .inr (h.up e)
section
variable {α : Type} {F : Ent} {B H : Hp} {L : Led} {σ : L2.St} {K : PySem.W.Frag} {P : Program} {w : World} {tg : Expr} {as : List α} {enc : α → PyData} {v : V} {Q : VK}
theorem v_lenDW {ds : List PyData} (S : Ok F B L H) (h : Dpl K B v ds) (k : Q (.int ds.length) H) : CallU P w K (.builtin "len") [v] H Q := by
  rcases h with h | h
  · exact v_lenDL S h k
  · exact v_lenDT S h k
theorem v_ixDW {ds : List PyData} {d : PyData} {i : Int} {j : Nat} (S : Ok F B L H) (h : Dpl K B v ds) (hi : i = (j : Int)) (hj : ds[j]? = some d) (k : ∀ u, Dp K B u d → Q u H) : IxU P w K v (.int i) H Q := by
  rcases h with h | h
  · exact v_ixDL S h hi hj k
  · exact v_ixDT S h hi hj k
end
end WK
namespace WK
open PySem PySem.Spec PyProof.Rows L2
section
variable {P : Program} {w : World} {K : PySem.W.Frag} {H : Hp} {Q : VK} {v : V}
theorem v_eqNon (k : Q (.bl true) H) : OpU P w K (compareOp .Eq) .non .non H Q := .of (fun _ _ => op_eq) ⟨rfl, by simpa using k⟩
end
end WK
namespace WK
open PySem L2
theorem isSeqT {d : PyData} {ds : List PyData} (h : d = .list ds ∨ d = .tuple ds) : (isT (tyD d) "tuple" || isT (tyD d) "list") = true := by
  rcases h with rfl | rfl
  · show (isT "list" "tuple" || isT "list" "list") = true
    decide
  · show (isT "tuple" "tuple" || isT "tuple" "list") = true
    decide
theorem isSeqF {K : PySem.W.Frag} {B : Hp} {v : V} {d : PyData} (hv : Dp K B v d) (h : ¬ ∃ ds, d = .list ds ∨ d = .tuple ds) : (isT (tyD d) "tuple" || isT (tyD d) "list") = false := by
  cases hv with
  | non => show (isT "NoneType" "tuple" || isT "NoneType" "list") = false; decide
  | bl b => show (isT "bool" "tuple" || isT "bool" "list") = false; decide
  | int i => show (isT "int" "tuple" || isT "int" "list") = false; decide
  | str x => show (isT "str" "tuple" || isT "str" "list") = false; decide
  | lst h1 h2 => exact absurd ⟨_, .inl rfl⟩ h
  | tup h1 h2 => exact absurd ⟨_, .inr rfl⟩ h
theorem isT_ii : isT "int" "int" = true := by decide
theorem isT_bi : isT "bool" "int" = true := by decide
theorem isT_is : isT "int" "str" = false := by decide
theorem isT_bs : isT "bool" "str" = false := by decide
theorem isT_ss : isT "str" "str" = true := by decide
end WK

/-! set(a list of ints and texts) -/
namespace WK
open PySem PySem.Spec PyProof.Rows L2
/-- the keys seen among the first i, and how many unlike ones -/
def seen (ks : Nat → Key) (i : Nat) (k : Key) : Bool := (List.range i).any fun j => decide (ks j = k)
def unlike (ks : Nat → Key) : Nat → Nat
  | 0 => 0
  | i + 1 => if seen ks i (ks i) = true then unlike ks i else unlike ks i + 1
theorem seen_succ (ks : Nat → Key) (i : Nat) (k : Key) : seen ks (i + 1) k = (seen ks i k || decide (k = ks i)) := by
  unfold seen
  rw [List.range_succ, List.any_append]
  simp only [List.any_cons, List.any_nil, Bool.or_false]
  congr 1
  by_cases h : ks i = k
  · rw [decide_eq_true h, decide_eq_true h.symm]
  · rw [decide_eq_false h, decide_eq_false fun z => h z.symm]
theorem unlike_le (ks : Nat → Key) : ∀ i, unlike ks i ≤ i
  | 0 => Nat.le_refl _
  | i + 1 => by
    have := unlike_le ks i
    unfold unlike
    split <;> omega
section
variable {prog : Program} {w : World} {A : Around} {R : Result → Shared → Prop} {I : Addr} {fp wr : List Addr} {G : Array GenState → Array GenState → Prop} {n : Nat} {P : Nat → Value → Prop} {St : Nat → Shared → Prop}
theorem set_fill (W : WalksS prog w A.in1 I fp wr G n P St) (D : Addr) (hD : D ∉ fp) (ks : Nat → Key) (hks : ∀ i v, P i v → RelV (kV (ks i)) v) (hb : n + 1 < scanBound) :
    ∀ (left i : Nat) (s : Shared), n - i = left → i ≤ n → St i s → s.heap.SetOf (mixKind prog w) D (seen ks i) (unlike ks i) →
      (∀ s', Moved (D :: wr) G s s' → s'.heap.SetOf (mixKind prog w) D (seen ks n) (unlike ks n) → R (.ok (.ret .none)) s') → codeAny (model prog w) A (.builtin "set.update.loop" ⟨[.ref D, .ref I], []⟩) R s := by
  have out : D ∉ wr := fun h => hD (W.sub _ h)
  have more : ∀ b ∈ wr, b ∈ D :: wr := fun b hb => List.mem_cons_of_mem _ hb
  have stays : ∀ {s s' : Shared} {S : Key → Bool} {c : Nat}, Moved wr G s s' → s.heap.SetOf (mixKind prog w) D S c → s'.heap.SetOf (mixKind prog w) D S c := fun hm hS => setOf_at hS fun o ho => hm.heap D o out ho
  intro left
  induction left with
  | zero =>
    intro i s hk hi hst hS fin
    obtain rfl : i = n := by omega
    refine codeAny_builtin PyProof.Rows.F.entry_set_update_loop ?_
    rw [Around.under_plainId PyProof.Rows.F.plain_set_update_loop _]
    show wpAny _ A.in1 (pyNext (.ref I) >>= _) _ _ s
    exact wpAny_bind (W.done s _ _ hst fun s' hm => wpAny_pure (fin s' (hm.mono more) (stays hm hS)))
  | succ left ih =>
    intro i s hk hi hst hS fin
    have hlt : i < n := by omega
    refine codeAny_builtin PyProof.Rows.F.entry_set_update_loop ?_
    rw [Around.under_plainId PyProof.Rows.F.plain_set_update_loop _]
    show wpAny _ A.in1 (pyNext (.ref I) >>= _) _ _ s
    refine wpAny_bind (W.item i s _ _ hlt hst fun v s1 hv hst1 hm => ?_)
    have rv := hks i v hv
    show wpAny _ A.in1 (holding [v] (setAdd D v) >>= _) _ _ s1
    refine wpAny_bind (wpAny_holding ?_)
    unfold setAdd
    refine wpAny_holding (wpAny_bind ((mixKind prog w).pyHash (k := ks i) (kV_is rv) ?_))
    have hS1 := stays hm hS
    have room : unlike ks i + 1 < scanBound := by have := unlike_le ks i; omega
    refine wpAny_setAddHashed_of (knd := mixKind prog w) (s := { s1 with toks := s1.toks + 1 }) (kV_is rv) (key_scan rv) hS1 room fun h' sb new => ?_
    have new1 : h'.SetOf (mixKind prog w) D (seen ks (i + 1)) (unlike ks (i + 1)) := by
      have e1 : (fun k => seen ks i k || decide (k = ks i)) = seen ks (i + 1) := funext fun k => (seen_succ ks i k).symm
      have e2 : unlike ks (i + 1) = if seen ks i (ks i) = true then unlike ks i else unlike ks i + 1 := rfl
      rw [e1] at new
      rw [e2]
      exact new
    refine wpAny_pure ⟨plainId_quiet PyProof.Rows.F.plain_set_update_loop _, ih (i + 1) _ (by omega) hlt (W.frame _ s1 _ _ hst1 (Nat.le_succ _) fun b hb o e => ?_) new1 fun s2 hm2 hS2 => ?_⟩
    · rw [sb.2 b fun z => hD (z ▸ hb)]
      exact e
    · refine fin s2 (Moved.trans W.gtrans ((hm.mono more).then_heap (Nat.le_succ _) fun b o hb e => ?_) hm2) hS2
      rw [sb.2 b fun z => hb (by rw [z]; exact List.mem_cons_self)]
      exact e
end
section
variable {prog : Program} {w : World} {A : Around} {E : Value → Shared → Prop} {s : Shared}
set_option maxHeartbeats 4000000 in
theorem set_init_of {M : Model} {A : Around} {E : Value → Shared → Prop} {s : Shared} {Q : Fin → Shared → Prop} {D l : Addr} {dict : Option Addr} {slots : Array (Option Value)} {od : Data} {led : Bool}
    (at0 : s.heap.get? D = some { cls := .type "set", dict := none, data := .set #[] 0 (.fresh 0 0 led) }) (hol : s.heap.get? l = some { cls := .type "list", dict := dict, data := od, slots := slots })
    (k : wpAny M A (pyIter (.ref l)) (fun a s' => wpAny M A (runValue (Code.builtin "set.update.loop" ⟨[.ref D, a], []⟩)) (fun _ s' => Q (.done (.ret .none)) s') E s') E s) :
    wpAny M A (Builtin.«set.__init__» ⟨[.ref D, .ref l], []⟩) Q E s := by
  have f8 := PySem.F.sub_list_set
  have f9 := PySem.F.sub_list_frozenset
  have ne : (Value.type "list" == Value.type "dict") = false := by decide
  unfold Builtin.«set.__init__» noKeywords Builtin.Frozenset.updateFrom
  generalize hPI : pyIter = PI at k
  wp_walk
  refine wpAny_mono k (fun a s' h => ?_) fun _ _ h => h
  exact wpAny_bind (wpAny_mono h (fun _ s2 h2 => wpAny_pure (wpAny_pure h2)) fun _ _ h => h)
set_option maxHeartbeats 4000000 in
theorem set_of_list {l : Addr} {items : Array Value} {ks : Nat → Key} {Q : Value → Shared → Prop} (hh : A.handled = none) (hl : s.heap.IsList l items) (hi : ∀ (i : Nat) (v : Value), items[i]? = some v → RelV (kV (ks i)) v) (hb : items.size + 1 < scanBound)
    (fin : ∀ (h' : Heap) (tk : Nat), h'.SetOf (mixKind prog w) s.heap.objs.size (seen ks items.size) (unlike ks items.size) → (∀ b o, b < s.heap.objs.size → s.heap.get? b = some o → h'.get? b = some o) → Q (.ref s.heap.objs.size) { s with heap := h', toks := tk }) :
    wpAny (model prog w) A (call (.type "set") [.ref l]) Q E s := by
  obtain ⟨c, tl, hmro⟩ := PySem.F.called_set.mro
  have f1 := PySem.F.called_set.made
  have f2 := PySem.F.called_set.sub
  refine wpAny_call (codeAny_of_tree ?_)
  show wpAny _ _ (callAny (.type "set") _) _ _ _
  refine wpAny_pure ⟨Code.quiet_builtin _ (by decide +kernel), codeAny_builtin PySem.F.entry_type_call ?_⟩
  rw [Around.under_plain (weight_type_call_type "set" [.ref l] []) rfl]
  have f3 := PySem.F.called_set.notType
  have f4 := PySem.F.called_set.canCreate
  have f5 := PySem.F.typeCall_set_1 (.ref l)
  repeat (any_goals (first | assumption | wp_step))
  refine codeAny_mono (code_set_new_1 (.ref l) (E := E) (Q₁ := fun obj s1 => ∃ led : Bool, obj = .ref s.heap.objs.size ∧ s1 = { s with heap := s.heap.push { cls := .type "set", dict := none, data := .set #[] 0 (.fresh 0 0 led) } }) fun led => ⟨led, rfl, rfl⟩) fun r s1 hr => ?_
  cases r with
  | error e => exact hr
  | ok fl =>
    cases fl with
    | ret obj =>
      obtain ⟨led, rfl, rfl⟩ := hr
      generalize hg : s.heap.push { cls := .type "set", dict := none, data := .set #[] 0 (.fresh 0 0 led) } = g
      have at0 : g.get? s.heap.objs.size = some { cls := .type "set", dict := none, data := .set #[] 0 (.fresh 0 0 led) } := by rw [← hg]; exact Heap.get?_push_size _ rfl
      have kept : ∀ {b : Addr} {o : Obj}, s.heap.get? b = some o → g.get? b = some o := fun e => by rw [← hg]; exact Heap.get?_push_of_some _ e
      have gsz : g.objs.size = s.heap.objs.size + 1 := by rw [← hg]; exact Heap.size_push ..
      have ty : Shared.TypeIs { s with heap := g } (.ref s.heap.objs.size) "set" := ⟨_, at0, rfl⟩
      have f6 := PySem.F.called_set.init.lookup
      have f7 := PySem.F.called_set.init.bind (.ref s.heap.objs.size)
      repeat (any_goals (first | assumption | wp_step))
      refine codeAny_mono (codeAny_call_builtin (R := wants (fun r s2 => r = .none ∧ ∃ h' tk, s2 = { s with heap := h', toks := tk } ∧ h'.SetOf (mixKind prog w) s.heap.objs.size (seen ks items.size) (unlike ks items.size) ∧
          (∀ b o, b < s.heap.objs.size → s.heap.get? b = some o → h'.get? b = some o)) E) PySem.F.called_set.init.plain PySem.F.entry_set_init (check_set_init_1 ty ?_)) fun r2 s2 hr2 => ?_
      · obtain ⟨ol, hol, hcl, nl, hdl⟩ := hl
        obtain ⟨ocls, odict, odata, oslots⟩ := ol
        simp only at hcl hdl
        subst hcl; subst hdl
        have hol1 := kept hol
        have hl1 : g.IsList l items := ⟨_, hol1, rfl, nl, rfl⟩
        refine set_init_of at0 hol1 (wpAny_pyIter_list hl1 (wpAny_runValue ?_))
        have lts : l < s.heap.objs.size := Heap.lt_size hol
        have hh3 : A.in1.in1.in1.handled = none := by simp [hh]
        have neI : l ≠ g.objs.size := by rw [gsz]; exact Nat.ne_of_lt (Nat.lt_succ_of_lt lts)
        have outs : s.heap.objs.size ∉ [g.objs.size, l] := by
          rw [gsz]
          simp only [List.mem_cons, List.not_mem_nil, or_false, not_or]
          exact ⟨Nat.ne_of_lt (Nat.lt_succ_self _), Nat.ne_of_gt lts⟩
        refine set_fill ((Walks.list hh3 _ l neI items).toS) s.heap.objs.size outs ks hi hb (items.size - 0) 0 _ (by omega) (Nat.zero_le _) ⟨⟨_, Heap.get?_push_size _ rfl, rfl, rfl⟩, (hl1.push _)⟩ ?start ?done
        case start =>
          have at1 : (g.push { cls := .type "list_iterator", data := .fields #[.ref l, .int 0 0] }).get? s.heap.objs.size = some { cls := .type "set", dict := none, data := .set #[] 0 (.fresh 0 0 led) } := Heap.get?_push_of_some _ at0
          exact ⟨_, #[], 0, _, at1, ⟨rfl, rfl, rfl⟩, rfl, fun e he => by simp at he, fun k => ⟨fun z => by simp [seen] at z, fun ⟨e, he, _⟩ => by simp at he⟩, by decide, by rfl, rfl⟩
        case done =>
          intro s' hm hS
          obtain ⟨h', g', d', tk', os'⟩ := s'
          obtain rfl : g' = s.gens := hm.gens
          obtain rfl : d' = s.drawn := hm.drawn
          obtain rfl : os' = s.os := hm.os
          refine ⟨rfl, h', tk', rfl, hS, fun b o hb e => ?_⟩
          refine hm.heap b o ?_ (Heap.get?_push_of_some _ (kept e))
          simp only [List.mem_cons, List.not_mem_nil, or_false, not_or]
          exact ⟨Nat.ne_of_lt hb, by rw [gsz]; exact Nat.ne_of_lt (Nat.lt_succ_of_lt hb)⟩
      · cases r2 with
        | error e => exact hr2
        | ok fl2 =>
          cases fl2 with
          | ret r =>
            obtain ⟨rfl, h', tk, rfl, hS', hk'⟩ := hr2
            repeat (any_goals (first | assumption | wp_step))
            exact fin _ _ hS' hk'
          | _ => exact hr2.elim
    | _ => exact hr.elim
end
section
variable {P : Program} {w : World} {K : PySem.W.Frag} {H B : Hp} {Q : VK} {F : Ent} {L : Led} {a : Addr}
/-- set(xs), xs a list of ints and texts -/
theorem v_setOf {xs : List Key} (S : Ok F B L H) (h : SqL K H a (xs.map kV)) (hz : xs.length < 4000)
    (k : ∀ p H', Ok F B ((p, SetK P w p (seen (fun i => xs.getD i (.inl 0)) xs.length) (unlike (fun i => xs.getD i (.inl 0)) xs.length)) :: L) H' → Q (.ref p) H') : CallU P w K (.type "set") [.ref a] H Q := by
  intro X pins s σ us al I r
  obtain ⟨rfl, rfl, rfl, hc, hu⟩ := al
  obtain ⟨u, rfl, ru⟩ := vals1 r
  obtain rfl : u = Value.ref a := ru
  obtain ⟨its, rv, pl, _⟩ := I.list h
  have hlen : its.toArray.size = xs.length := by rw [List.size_toArray, ← rv.length, List.length_map]
  refine set_of_list (I.ok.hd hc) pl.isList (ks := fun i => xs.getD i (.inl 0)) (fun i v e => ?_) (by rw [hlen]; unfold scanBound; omega) fun h' tk new kp => ?_
  · have e' : its[i]? = some v := by simpa using e
    have hi : i < xs.length := by
      have := (List.getElem?_eq_some_iff.mp e').1
      have := rv.length
      rw [List.length_map] at this
      omega
    obtain ⟨v', hv', r'⟩ := rv.get (i := i) (x := kV (xs[i])) (by rw [List.getElem?_map, List.getElem?_eq_getElem hi]; rfl)
    rw [e'] at hv'
    cases hv'
    show RelV (kV (xs.getD i (.inl 0))) v
    rw [List.getD_eq_getElem?_getD, List.getElem?_eq_getElem hi]
    exact r'
  · rw [hlen] at new
    have hn : H s.heap.objs.size = none := I.hok.fresh (Nat.le_refl _)
    refine ⟨.ref s.heap.objs.size, upd H s.heap.objs.size (SetK X.prog X.w s.heap.objs.size _ _), I.laid (a := s.heap.objs.size) (o := SetK X.prog X.w s.heap.objs.size _ _) (h' := h') (t' := tk) (fun b o e => kp b o (Heap.lt_size e) e) (Nat.le_refl _) (setK_new new), rfl, k _ _ (S.newL hn)⟩
theorem v_lenSet {p : Addr} {T : Key → Bool} {n : Nat} (h : H p = some (SetK P w p T n)) (hz : n < 2 ^ 62) (k : Q (.int n) H) : CallU P w K (.builtin "len") [.ref p] H Q := by
  intro X pins s σ us al I r
  obtain ⟨rfl, rfl, rfl, hc, hu⟩ := al
  obtain ⟨u, rfl, ru⟩ := vals1 r
  obtain rfl : u = Value.ref p := ru
  obtain ⟨o, es, ep, t, ho, hex, hd, _, _, _, hf, hn⟩ := setK_get I h
  exact call_len_set ho hex hd hf (by rw [hn]; omega) ⟨.int n, H, I.tok _, ⟨_, by rw [hn]⟩, k⟩
end
/-- all unlike: as many as there are -/
theorem unlike_nodup {xs : List Key} (h : xs.Nodup) : ∀ i, i ≤ xs.length → unlike (fun i => xs.getD i (.inl 0)) i = i
  | 0, _ => rfl
  | i + 1, hi => by
    have ih := unlike_nodup h i (by omega)
    have no : seen (fun i => xs.getD i (.inl 0)) i (xs.getD i (.inl 0)) = false := by
      unfold seen
      rw [List.any_eq_false]
      intro j hj
      rw [List.mem_range] at hj
      simp only [decide_eq_true_eq]
      have hj' : j < xs.length := by omega
      have hi' : i < xs.length := by omega
      rw [List.getD_eq_getElem?_getD, List.getD_eq_getElem?_getD, List.getElem?_eq_getElem hj', List.getElem?_eq_getElem hi']
      exact (List.pairwise_iff_getElem.mp h) j i hj' hi' hj
    show (if seen _ i _ = true then _ else _) = _
    rw [no, if_neg Bool.false_ne_true, ih]
end WK
namespace WK
open PySem PySem.Spec PyProof.Rows L2
section
variable {P : Program} {w : World} {F : Ent} {B H : Hp} {L : Led} {K : PySem.W.Frag} {Q : VK} {v : V}
theorem v_setOfD {ss : List Str} (S : Ok F B L H) (h : Dp K B v (.list (ss.map PyData.str))) (hz : ss.length < 4000)
    (k : ∀ p H', Ok F B ((p, SetK P w p (seen (fun i => (ss.map fun s => (Sum.inr s : Key)).getD i (.inl 0)) ss.length) (unlike (fun i => (ss.map fun s => (Sum.inr s : Key)).getD i (.inl 0)) ss.length)) :: L) H' → Q (.ref p) H') : CallU P w K (.type "set") [v] H Q := by
  obtain ⟨a, xs, rfl, hq, ha⟩ := Dp.lst_inv h
  rw [ha.strs] at hq
  have e : ss.map V.str = (ss.map fun s => (Sum.inr s : Key)).map kV := by rw [List.map_map]; rfl
  rw [e] at hq
  have := v_setOf (P := P) (w := w) (Q := Q) S (S.sqB hq) (by rw [List.length_map]; exact hz)
  rw [List.length_map] at this
  exact this k
theorem nodup_inr {ss : List Str} (h : ss.Nodup) : (ss.map fun s => (Sum.inr s : Key)).Nodup := by
  rw [List.nodup_iff_pairwise_ne] at h ⊢
  rw [List.pairwise_map]
  exact h.imp fun hab e => hab (Sum.inr.inj e)
/-- len(set(texts)), texts unlike one another -/
theorem unlike_strs {ss : List Str} (h : ss.Nodup) : unlike (fun i => (ss.map fun s => (Sum.inr s : Key)).getD i (.inl 0)) ss.length = ss.length := by
  have := unlike_nodup (nodup_inr h) ss.length (by rw [List.length_map]; exact Nat.le_refl _)
  exact this
end
end WK

/-! a book of parts as data -/
namespace PM
open PySem L2
abbrev letters : Str := "abcdefghijklmnopqrstuvwxyz"
def isNameM (z : Str) : Bool := decide (1 ≤ (z.length : Int)) && (decide ((z.length : Int) ≤ 8) && (z.cps.toList.map fun c => decide (c ∈ letters.cps.toList)).all id)
structure PRow where
  name : Str
  needs : List (Str × Int)
  steps : List (Int × Int)
  lot : Int
  lead : Int
abbrev encNeed (x : Str × Int) : PyData := .tuple [.str x.1, .int x.2]
abbrev encStep (x : Int × Int) : PyData := .tuple [.int x.1, .int x.2]
abbrev encRow (r : PRow) : PyData := .tuple [.str r.name, .tuple (r.needs.map encNeed), .tuple (r.steps.map encStep), .int r.lot, .int r.lead]
abbrev encRest (r : PRow) : PyData := .tuple [.tuple (r.needs.map encNeed), .tuple (r.steps.map encStep), .int r.lot, .int r.lead]
/-- a row that may stand behind the names -/
structure GoodRow (names : List Str) (r : PRow) : Prop where
  nm : isNameM r.name = true
  new : r.name ∉ names
  lot : 1 ≤ r.lot ∧ r.lot ≤ 99
  lead : 0 ≤ r.lead ∧ r.lead ≤ 30
  nd : (r.needs.map (·.1)).Nodup
  known : ∀ x ∈ r.needs, x.1 ∈ names
  many : ∀ x ∈ r.needs, 1 ≤ x.2 ∧ x.2 ≤ 9
  few : r.steps.length ≤ 5
  steps : ∀ x ∈ r.steps, (0 ≤ x.1 ∧ x.1 < 6) ∧ 1 ≤ x.2 ∧ x.2 ≤ 99

theorem nodup_sub_length {α : Type} [DecidableEq α] {l l' : List α} (h : l.Nodup) (hs : ∀ x ∈ l, x ∈ l') : l.length ≤ l'.length := by
  induction l generalizing l' with
  | nil => exact Nat.zero_le _
  | cons a l ih =>
    have hn := List.nodup_cons.mp h
    have ha := hs a (List.mem_cons_self ..)
    have := ih hn.2 (l' := l'.erase a) fun x hx => (List.mem_erase_of_ne (fun e : x = a => hn.1 (by rw [← e]; exact hx))).mpr (hs x (List.mem_cons_of_mem _ hx))
    rw [List.length_erase_of_mem ha] at this
    have : 0 < l'.length := List.length_pos_of_mem ha
    simp only [List.length_cons]
    omega
/-! dicts with texts as keys -/
def getA {α : Type} (l : List (Str × α)) (s : Str) : Option α := (l.find? fun p => decide (p.1 = s)).map (·.2)
def putA {α : Type} (l : List (Str × α)) (s : Str) (v : α) : List (Str × α) := if (l.any fun p => decide (p.1 = s)) = true then l.map (fun p => if p.1 = s then (p.1, v) else p) else l ++ [(s, v)]
abbrev kvI (l : List (Str × Int)) : List (Key × V) := l.map fun p => (.inr p.1, .int p.2)
theorem valV_kvI (l : List (Str × Int)) (s : Str) : valV (kvI l) (.inr s) = (getA l s).map V.int := by
  unfold valV getA kvI
  induction l with
  | nil => rfl
  | cons p l ih =>
    rw [List.map_cons, List.find?_cons, List.find?_cons]
    by_cases h : p.1 = s
    · subst h
      simp
    · have h1 : decide (p.1 = s) = false := decide_eq_false h
      have h2 : decide ((Sum.inr p.1 : Key) = .inr s) = false := decide_eq_false fun z => h (Sum.inr.inj z)
      simp only [h1, h2]
      exact ih
theorem any_kvI (l : List (Str × Int)) (s : Str) : ((kvI l).any fun kv => decide (kv.1 = .inr s)) = (l.any fun p => decide (p.1 = s)) := by
  unfold kvI
  rw [List.any_map]
  congr 1
  funext p
  by_cases h : p.1 = s
  · subst h; simp
  · show decide ((Sum.inr p.1 : Key) = .inr s) = decide (p.1 = s)
    rw [decide_eq_false h, decide_eq_false fun z => h (Sum.inr.inj z)]
theorem putK_kvI (l : List (Str × Int)) (s : Str) (i : Int) : putK (kvI l) (.inr s) (.int i) = kvI (putA l s i) := by
  unfold putK putA
  rw [any_kvI]
  split
  · unfold kvI
    rw [List.map_map, List.map_map]
    refine List.map_congr_left fun p _ => ?_
    show (if (Sum.inr p.1 : Key) = .inr s then _ else _) = _
    by_cases h : p.1 = s
    · subst h; simp
    · rw [if_neg fun z => h (Sum.inr.inj z)]
      show _ = (Sum.inr (if p.1 = s then (p.1, i) else p).1, V.int (if p.1 = s then (p.1, i) else p).2)
      rw [if_neg h]
  · unfold kvI
    rw [List.map_append]
    rfl
theorem getA_isSome {α : Type} (l : List (Str × α)) (s : Str) : (getA l s).isSome = true ↔ s ∈ l.map (·.1) := by
  unfold getA
  rw [Option.isSome_map, List.find?_isSome]
  simp only [decide_eq_true_eq, List.mem_map]
theorem putA_keys {α : Type} (l : List (Str × α)) (s : Str) (v : α) (h : s ∈ l.map (·.1)) : (putA l s v).map (·.1) = l.map (·.1) := by
  unfold putA
  rw [if_pos]
  · rw [List.map_map]
    refine List.map_congr_left fun p _ => ?_
    show (if p.1 = s then (p.1, v) else p).1 = p.1
    split <;> rfl
  · rw [List.any_eq_true]
    obtain ⟨p, hp, e⟩ := List.mem_map.mp h
    exact ⟨p, hp, decide_eq_true e⟩
theorem putA_new {α : Type} (l : List (Str × α)) (s : Str) (v : α) (h : s ∉ l.map (·.1)) : putA l s v = l ++ [(s, v)] := by
  unfold putA
  rw [if_neg]
  intro z
  rw [List.any_eq_true] at z
  obtain ⟨p, hp, e⟩ := z
  exact h (List.mem_map.mpr ⟨p, hp, of_decide_eq_true e⟩)
def addA (l : List (Str × Int)) (s : Str) (i : Int) : List (Str × Int) := putA l s ((getA l s).getD 0 + i)
/-- what some needs lead to, by what those ahead lead to -/
def addAll (m : Int) (f : List (Str × Int)) (more : List (Str × Int)) : List (Str × Int) := more.foldl (fun f p => addA f p.1 (m * p.2)) f
def needStep (ls : List (Str × List (Str × Int))) (f : List (Str × Int)) (p : Str × Int) : List (Str × Int) := addAll p.2 (addA f p.1 p.2) ((getA ls p.1).getD [])
def ledRaw (names : List Str) (ls : List (Str × List (Str × Int))) (needs : List (Str × Int)) : List (Str × Int) := needs.foldl (needStep ls) (names.map fun s => (s, 0))
def ledTo (names : List Str) (ls : List (Str × List (Str × Int))) (needs : List (Str × Int)) : List (Str × Int) := (ledRaw names ls needs).filter fun p => decide (0 < p.2)
/-- what each part of a book leads to -/
def ledStep (ls : List (Str × List (Str × Int))) (r : PRow) : List (Str × List (Str × Int)) := ls ++ [(r.name, ledTo (ls.map (·.1) ++ [r.name]) ls r.needs)]
def ledOf (rs : List PRow) : List (Str × List (Str × Int)) := rs.foldl ledStep []
theorem ledOf_snoc (rs : List PRow) (r : PRow) : ledOf (rs ++ [r]) = ledStep (ledOf rs) r := by
  unfold ledOf
  rw [List.foldl_append]
  rfl
theorem ledOf_names (rs : List PRow) : (ledOf rs).map (·.1) = rs.map (·.name) := by
  suffices h : ∀ (rs : List PRow) (ls : List (Str × List (Str × Int))), (rs.foldl ledStep ls).map (·.1) = ls.map (·.1) ++ rs.map (·.name) from h rs []
  intro rs
  induction rs with
  | nil => intro ls; simp
  | cons r rs ih =>
    intro ls
    rw [List.foldl_cons, ih]
    simp [ledStep]
/-- a book that can be -/
structure GoodBook (rs : List PRow) : Prop where
  len : rs.length ≤ 12
  row : ∀ i r, rs[i]? = some r → GoodRow ((rs.take i).map (·.name)) r
  led : ∀ p ∈ ledOf rs, (p.2.map (·.2)).sum ≤ 200
end PM

/-! books of parts in the heap -/
namespace PM
open PySem PySem.Spec PyProof.Rows L2 WK
section
variable {K : PySem.W.Frag} {σ : L2.St} {H B : Hp} {F : Ent} {L : Led} {gs : TGs} {v : V} {QG : L2.St → Hp → Prop}
theorem r_gtupRow {r : PRow} (S : Ok F B L H) (h : Dp K B v (encRow r)) (k : ∀ v2 v3, Dp K B v2 (.tuple (r.needs.map encNeed)) → Dp K B v3 (.tuple (r.steps.map encStep)) → gs [.str r.name, v2, v3, .int r.lot, .int r.lead] σ H QG) : gTup K 5 gs v σ H QG :=
  r_gtupD S h rfl fun vs ha => by
    obtain ⟨v1, _, rfl, h1, ha⟩ := ha.cons_inv
    obtain ⟨v2, _, rfl, h2, ha⟩ := ha.cons_inv
    obtain ⟨v3, _, rfl, h3, ha⟩ := ha.cons_inv
    obtain ⟨v4, _, rfl, h4, ha⟩ := ha.cons_inv
    obtain ⟨v5, _, rfl, h5, ha⟩ := ha.cons_inv
    obtain rfl := ha.nil_inv
    obtain rfl := h1.str_inv
    obtain rfl := h4.int_inv
    obtain rfl := h5.int_inv
    exact k v2 v3 h2 h3
end
/-- what the parts lead to: frozen dicts -/
inductive LedKV (B : Hp) : List (Key × V) → List (Str × List (Str × Int)) → Prop
  | nil : LedKV B [] []
  | cons {s d od m kvs ls} : B d = some (.frz od (.dK (kvI m))) → LedKV B kvs ls → LedKV B ((.inr s, .ref d) :: kvs) ((s, m) :: ls)
inductive RowKV (K : PySem.W.Frag) (B : Hp) : List (Key × V) → List PRow → Prop
  | nil : RowKV K B [] []
  | cons {v r kvs rs} : Dp K B v (encRest r) → RowKV K B kvs rs → RowKV K B ((.inr r.name, v) :: kvs) (r :: rs)
section
variable {K : PySem.W.Frag} {B B' : Hp} {kvs : List (Key × V)} {ls : List (Str × List (Str × Int))} {rs : List PRow}
theorem LedKV.up (e : Ex B B') (h : LedKV B kvs ls) : LedKV B' kvs ls := by
  induction h with
  | nil => exact .nil
  | cons h _ ih => exact .cons (e _ _ h) ih
theorem RowKV.up (e : Ex B B') (h : RowKV K B kvs rs) : RowKV K B' kvs rs := by
  induction h with
  | nil => exact .nil
  | cons h _ ih => exact .cons (h.up e) ih
theorem LedKV.keys (h : LedKV B kvs ls) : kvs.map (·.1) = ls.map fun p => .inr p.1 := by
  induction h with
  | nil => rfl
  | cons _ _ ih => simp [ih]
theorem RowKV.keys (h : RowKV K B kvs rs) : kvs.map (·.1) = (rs.map (·.name)).map Sum.inr := by
  induction h with
  | nil => rfl
  | cons _ _ ih => simp only [List.map_cons, ih]
theorem LedKV.snoc {s : Str} {d : Addr} {od : Obj} {m : List (Str × Int)} (h : LedKV B kvs ls) (hd : B d = some (.frz od (.dK (kvI m)))) : LedKV B (kvs ++ [(.inr s, .ref d)]) (ls ++ [(s, m)]) := by
  induction h with
  | nil => exact .cons hd .nil
  | cons h _ ih => exact .cons h ih
theorem RowKV.snoc {v : V} {r : PRow} (h : RowKV K B kvs rs) (hv : Dp K B v (encRest r)) : RowKV K B (kvs ++ [(.inr r.name, v)]) (rs ++ [r]) := by
  induction h with
  | nil => exact .cons hv .nil
  | cons h _ ih => exact .cons h ih
theorem LedKV.get {s : Str} {m : List (Str × Int)} (h : LedKV B kvs ls) (e : getA ls s = some m) : ∃ d od, valV kvs (.inr s) = some (.ref d) ∧ B d = some (.frz od (.dK (kvI m))) := by
  induction h with
  | nil => cases e
  | @cons s' d od m' kvs ls hd _ ih =>
    by_cases hs : s' = s
    · subst hs
      have : m' = m := by
        unfold getA at e
        rw [List.find?_cons] at e
        simpa using e
      subst this
      exact ⟨d, od, valV_pos rfl, hd⟩
    · have : getA ls s = some m := by
        unfold getA at e ⊢
        rw [List.find?_cons, show decide ((s', m').1 = s) = false from decide_eq_false hs] at e
        exact e
      obtain ⟨d, od, e1, e2⟩ := ih this
      exact ⟨d, od, by rw [valV_neg (fun z => hs (Sum.inr.inj z))]; exact e1, e2⟩
end
/-! the sums keep their keys -/
theorem addA_keys {f : List (Str × Int)} {s : Str} {i : Int} (h : s ∈ f.map (·.1)) : (addA f s i).map (·.1) = f.map (·.1) := putA_keys f s _ h
theorem addAll_keys {m : Int} {f more : List (Str × Int)} (h : ∀ y ∈ more, y.1 ∈ f.map (·.1)) : (addAll m f more).map (·.1) = f.map (·.1) := by
  unfold addAll
  induction more generalizing f with
  | nil => rfl
  | cons y more ih =>
    rw [List.foldl_cons, ih (f := addA f y.1 (m * y.2))]
    · exact addA_keys (h y (List.mem_cons_self ..))
    · intro z hz
      rw [addA_keys (h y (List.mem_cons_self ..))]
      exact h z (List.mem_cons_of_mem _ hz)
theorem getA_of_mem {α : Type} {l : List (Str × α)} {s : Str} (h : s ∈ l.map (·.1)) : ∃ v, getA l s = some v := Option.isSome_iff_exists.mp ((getA_isSome l s).mpr h)
theorem needStep_keys {ls : List (Str × List (Str × Int))} {f : List (Str × Int)} {p : Str × Int} (h : p.1 ∈ f.map (·.1)) (hm : ∀ m, getA ls p.1 = some m → ∀ y ∈ m, y.1 ∈ f.map (·.1)) : (needStep ls f p).map (·.1) = f.map (·.1) := by
  unfold needStep
  rw [addAll_keys, addA_keys h]
  intro y hy
  rw [addA_keys h]
  cases e : getA ls p.1 with
  | none => rw [e] at hy; cases hy
  | some m => rw [e] at hy; exact hm m e y hy
theorem needs_keys {ls : List (Str × List (Str × Int))} {f : List (Str × Int)} {ps : List (Str × Int)} (h : ∀ p ∈ ps, p.1 ∈ f.map (·.1)) (hm : ∀ p ∈ ps, ∀ m, getA ls p.1 = some m → ∀ y ∈ m, y.1 ∈ f.map (·.1)) : (ps.foldl (needStep ls) f).map (·.1) = f.map (·.1) := by
  induction ps generalizing f with
  | nil => rfl
  | cons p ps ih =>
    have h1 := needStep_keys (h p (List.mem_cons_self ..)) (hm p (List.mem_cons_self ..))
    rw [List.foldl_cons, ih, h1]
    · intro q hq; rw [h1]; exact h q (List.mem_cons_of_mem _ hq)
    · intro q hq m e y hy; rw [h1]; exact hm q (List.mem_cons_of_mem _ hq) m e y hy
theorem kvI_get {m : List (Str × Int)} {j : Nat} {kv : Key × V} (h : (kvI m)[j]? = some kv) : ∃ y, m[j]? = some y ∧ kv = (.inr y.1, .int y.2) := by
  unfold kvI at h
  rw [List.getElem?_map] at h
  cases e : m[j]? with
  | none => rw [e] at h; cases h
  | some y => rw [e] at h; exact ⟨y, rfl, (Option.some.inj h).symm⟩
theorem foldl_take_succ {α β : Type} {g : β → α → β} {b : β} {l : List α} {i : Nat} {x : α} (h : l[i]? = some x) : (l.take (i + 1)).foldl g b = g ((l.take i).foldl g b) x := by
  rw [List.take_add_one, h, List.foldl_append]; rfl
theorem kvI_keys (m : List (Str × Int)) : (kvI m).map (·.1) = (m.map (·.1)).map Sum.inr := by
  unfold kvI
  rw [List.map_map, List.map_map]; rfl
/-- a dict's row by its number -/
def vInt (c : Int → Bool) (kv : Key × V) : Bool := match kv.2 with | .int i => c i | _ => false
theorem kvI_filter (m : List (Str × Int)) (c : Int → Bool) : (kvI m).filter (vInt c) = kvI (m.filter fun p => c p.2) := by
  unfold kvI
  rw [List.filter_map]; rfl
abbrev fldsP (r l : Addr) : List (Str × V) := [("rows", .ref r), ("led", .ref l)]
theorem getA_mem {α : Type} {l : List (Str × α)} {s : Str} {v : α} (h : getA l s = some v) : (s, v) ∈ l := by
  unfold getA at h
  obtain ⟨p, hp, e⟩ := Option.map_eq_some_iff.mp h
  have h1 := List.mem_of_find?_eq_some hp
  have h2 := List.find?_some hp
  have : p.1 = s := of_decide_eq_true h2
  rw [← this, ← e]
  exact h1
theorem ledOf_take {rs : List PRow} {i : Nat} {r : PRow} (h : rs[i]? = some r) : ledOf (rs.take (i + 1)) = ledStep (ledOf (rs.take i)) r := foldl_take_succ h
theorem ledRaw_keys {names : List Str} {ls : List (Str × List (Str × Int))} {needs : List (Str × Int)} (h : ∀ x ∈ needs, x.1 ∈ names ∧ ∀ m, getA ls x.1 = some m → ∀ y ∈ m, y.1 ∈ names) : (ledRaw names ls needs).map (·.1) = names := by
  have e0 : (names.map fun s => ((s, 0) : Str × Int)).map (·.1) = names := by rw [List.map_map]; exact List.map_id' _
  unfold ledRaw
  rw [needs_keys, e0]
  · intro y hy; rw [e0]; exact (h y hy).1
  · intro y hy m em z hz; rw [e0]; exact (h y hy).2 m em z hz
theorem ledTo_in {names : List Str} {ls : List (Str × List (Str × Int))} {needs : List (Str × Int)} (h : ∀ x ∈ needs, x.1 ∈ names ∧ ∀ m, getA ls x.1 = some m → ∀ y ∈ m, y.1 ∈ names) : ∀ y ∈ ledTo names ls needs, y.1 ∈ names := by
  intro y hy
  rw [← ledRaw_keys h]
  exact List.mem_map.mpr ⟨y, (List.mem_filter.mp hy).1, rfl⟩
section
variable {rs : List PRow}
theorem take_succ_map {i : Nat} {r : PRow} (h : rs[i]? = some r) : (rs.take (i + 1)).map (·.name) = (rs.take i).map (·.name) ++ [r.name] := by
  rw [List.take_add_one, h, List.map_append]; rfl
theorem GoodBook.nodup (G : GoodBook rs) (i : Nat) : ((rs.take i).map (·.name)).Nodup := by
  induction i with
  | zero => exact List.nodup_nil
  | succ i ih =>
    cases e : rs[i]? with
    | none =>
      have : rs.length ≤ i := List.getElem?_eq_none_iff.mp e
      rw [List.take_of_length_le (by omega)]
      rw [List.take_of_length_le this] at ih
      exact ih
    | some r =>
      rw [take_succ_map e]
      refine List.nodup_append.mpr ⟨ih, List.nodup_cons.mpr ⟨(by simp), List.nodup_nil⟩, ?_⟩
      intro a ha b hb hab
      rw [List.mem_singleton] at hb
      subst hb hab
      exact (G.row i r e).new ha
theorem GoodBook.known (G : GoodBook rs) (i : Nat) : ∀ p ∈ ledOf (rs.take i), ∀ y ∈ p.2, y.1 ∈ (rs.take i).map (·.name) := by
  induction i with
  | zero => intro p hp; cases hp
  | succ i ih =>
    cases e : rs[i]? with
    | none =>
      have : rs.length ≤ i := List.getElem?_eq_none_iff.mp e
      rw [List.take_of_length_le (show rs.length ≤ i + 1 by omega)]
      rw [List.take_of_length_le this] at ih
      exact ih
    | some r =>
      rw [take_succ_map e, ledOf_take e]
      intro p hp y hy
      rcases List.mem_append.mp hp with hp | hp
      · exact List.mem_append_left _ (ih p hp y hy)
      · rw [List.mem_singleton] at hp
        subst hp
        rw [← ledOf_names]
        refine ledTo_in (fun x hx => ⟨?_, fun m hm z hz => ?_⟩) y hy
        · rw [ledOf_names]; exact List.mem_append_left _ ((G.row i r e).known x hx)
        · rw [ledOf_names]; exact List.mem_append_left _ (ih _ (getA_mem hm) z hz)
theorem GoodBook.needs (G : GoodBook rs) {i : Nat} {r : PRow} (e : rs[i]? = some r) : ∀ x ∈ r.needs, x.1 ∈ (rs.take i).map (·.name) ++ [r.name] ∧ (1 ≤ x.2 ∧ x.2 ≤ 9) ∧ ∃ m, getA (ledOf (rs.take i)) x.1 = some m ∧ ∀ y ∈ m, y.1 ∈ (rs.take i).map (·.name) ++ [r.name] := by
  intro x hx
  have R := G.row i r e
  obtain ⟨m, hm⟩ := getA_of_mem (l := ledOf (rs.take i)) (s := x.1) (by rw [ledOf_names]; exact R.known x hx)
  exact ⟨List.mem_append_left _ (R.known x hx), R.many x hx, m, hm, fun y hy => List.mem_append_left _ (G.known i _ (getA_mem hm) y hy)⟩
theorem ledOf_sub (i : Nat) : ∀ p ∈ ledOf (rs.take i), p ∈ ledOf rs := by
  suffices h : ∀ (xs : List PRow) (ls : List (Str × List (Str × Int))), ∀ p ∈ ls, p ∈ xs.foldl ledStep ls by
    intro p hp
    have := h (rs.drop i) (ledOf (rs.take i)) p hp
    unfold ledOf at this ⊢
    rw [← List.foldl_append, List.take_append_drop] at this
    exact this
  intro xs
  induction xs with
  | nil => intro ls p hp; exact hp
  | cons r xs ih => intro ls p hp; exact ih _ p (List.mem_append_left _ hp)
end
theorem kvI_vals (m : List (Str × Int)) : (kvI m).map (·.2) = (m.map (·.2)).map V.int := by
  unfold kvI
  rw [List.map_map, List.map_map]; rfl
theorem zipIdx_at {α : Type} {l : List α} {i : Nat} {y : α × Nat} (h : l.zipIdx[i]? = some y) : l[i]? = some y.1 ∧ y.2 = i := by
  rw [List.getElem?_zipIdx] at h
  cases e : l[i]? with
  | none => rw [e] at h; cases h
  | some x =>
    rw [e] at h
    have := Option.some.inj h
    subst this
    exact ⟨rfl, by simp⟩
theorem ledTo_sub {names : List Str} {ls : List (Str × List (Str × Int))} {needs : List (Str × Int)} (h : ∀ x ∈ needs, x.1 ∈ names ∧ ∀ m, getA ls x.1 = some m → ∀ y ∈ m, y.1 ∈ names) : ((ledTo names ls needs).map (·.1)).Sublist names := by
  have h1 : ((ledTo names ls needs).map (·.1)).Sublist ((ledRaw names ls needs).map (·.1)) := List.filter_sublist.map _
  rw [ledRaw_keys h] at h1
  exact h1
theorem GoodBook.led_sub {rs : List PRow} (G : GoodBook rs) (i : Nat) : ∀ p ∈ ledOf (rs.take i), (p.2.map (·.1)).Sublist ((rs.take i).map (·.name)) := by
  induction i with
  | zero => intro p hp; cases hp
  | succ i ih =>
    cases e : rs[i]? with
    | none =>
      have : rs.length ≤ i := List.getElem?_eq_none_iff.mp e
      rw [List.take_of_length_le (show rs.length ≤ i + 1 by omega)]
      rw [List.take_of_length_le this] at ih
      exact ih
    | some r =>
      rw [take_succ_map e, ledOf_take e]
      intro p hp
      rcases List.mem_append.mp hp with hp | hp
      · exact (ih p hp).trans (List.sublist_append_left _ _)
      · rw [List.mem_singleton] at hp
        subst hp
        have := ledTo_sub (names := (ledOf (rs.take i)).map (·.1) ++ [r.name]) (ls := ledOf (rs.take i)) (needs := r.needs) (fun x hx => ⟨by rw [ledOf_names]; exact List.mem_append_left _ ((G.row i r e).known x hx), fun m hm z hz => by rw [ledOf_names]; exact List.mem_append_left _ (G.known i _ (getA_mem hm) z hz)⟩)
        rw [ledOf_names] at this
        rw [ledOf_names]
        exact this
theorem GoodBook.led_all {rs : List PRow} (G : GoodBook rs) : ∀ p ∈ ledOf rs, (p.2.map (·.1)).Sublist (rs.map (·.name)) := by
  have := G.led_sub rs.length
  rw [List.take_length] at this
  exact this
end PM

/-! a floor, plainly -/
namespace PM
open PySem L2 WK
inductive Hold where
  | lot (j : Nat) (m : Int)
  | pc (k : Nat)
  deriving DecidableEq
structure Lt where
  part : Str
  left : Int
  price : Int
structure Pc where
  part : Str
  state : Str
  at_ : Int
  cost : Int
  holds : List Hold
  above : Option Nat
  client : Option Int
  own : Int
inductive Deed where
  | buy (p : Str) (m pr : Int)
  | begin_ (p : Str)
  | work (k : Int)
  | test (k : Int) (g : Bool)
  | rework (k a : Int)
  | swap (k o n : Int)
  | scrap (k : Int)
  | strip (k : Int)
  | sell (k c : Int)
  | back (k : Int)
def encDeed : Deed → PyData
  | .buy p m pr => .tuple [.str "buy", .str p, .int m, .int pr]
  | .begin_ p => .tuple [.str "begin", .str p]
  | .work k => .tuple [.str "work", .int k]
  | .test k g => .tuple [.str "test", .int k, .bool g]
  | .rework k a => .tuple [.str "rework", .int k, .int a]
  | .swap k o n => .tuple [.str "swap", .int k, .int o, .int n]
  | .scrap k => .tuple [.str "scrap", .int k]
  | .strip k => .tuple [.str "strip", .int k]
  | .sell k c => .tuple [.str "sell", .int k, .int c]
  | .back k => .tuple [.str "back", .int k]
structure Fl where
  rs : List PRow
  rates : List Int
  lots : List Lt
  pcs : List Pc
  book : List Deed
  spent : Int
  lost : Int
abbrev sMaking : Str := "making"
abbrev sMade : Str := "made"
abbrev sBad : Str := "bad"
abbrev sStock : Str := "stock"
abbrev sWithin : Str := "within"
abbrev sSold : Str := "sold"
abbrev sScrap : Str := "scrap"
abbrev sStripped : Str := "stripped"
/-- a part's row -/
def rowOf (rs : List PRow) (z : Str) : Option PRow := rs.find? fun r => decide (r.name = z)
def lotsOf (hs : List Hold) : List (Nat × Int) := hs.filterMap fun h => match h with | .lot j m => some (j, m) | .pc _ => none
def pcsOf (hs : List Hold) : List Nat := hs.filterMap fun h => match h with | .lot _ _ => none | .pc k => some k
/-- a floor at its beginning -/
def Fl.new (rs : List PRow) (rates : List Int) : Fl := ⟨rs, rates, [], [], [], 0, 0⟩
def Fl.buy (fs : Fl) (z : Str) (m pr : Int) : Fl := { fs with lots := fs.lots ++ [⟨z, m, pr⟩], spent := fs.spent + m * pr, book := fs.book ++ [.buy z m pr] }
def Pc.work (p : Pc) (c : Int) (n : Nat) : Pc := { p with at_ := p.at_ + 1, cost := p.cost + c, own := p.own + c, state := if p.at_ + 1 = (n : Int) then "made" else p.state }
def Fl.work (fs : Fl) (k : Nat) (p : Pc) (c : Int) (n : Nat) : Fl := { fs with pcs := fs.pcs.set k (p.work c n), spent := fs.spent + c, book := fs.book ++ [.work k] }
/-- a piece becomes another, which is noted -/
def Fl.put (fs : Fl) (k : Nat) (p : Pc) (d : Deed) : Fl := { fs with pcs := fs.pcs.set k p, book := fs.book ++ [d] }
theorem rowOf_mem {rs : List PRow} {z : Str} {r : PRow} (h : PM.rowOf rs z = some r) : r ∈ rs ∧ r.name = z := by
  unfold PM.rowOf at h
  exact ⟨List.mem_of_find?_eq_some h, by simpa using List.find?_some h⟩
end PM
namespace PM
open PySem L2 WK
def takeStep (z : Str) (acc : List (Nat × Int) × Int) (x : Lt × Nat) : List (Nat × Int) × Int :=
  if x.1.part = z ∧ 0 < x.1.left ∧ 0 < acc.2 then (acc.1 ++ [(x.2, if acc.2 < x.1.left then acc.2 else x.1.left)], acc.2 - (if acc.2 < x.1.left then acc.2 else x.1.left)) else acc
/-- the eldest lots of a part, so many; what is left to take -/
def takeLots (lots : List Lt) (z : Str) (m : Int) : List (Nat × Int) × Int := lots.zipIdx.foldl (takeStep z) ([], m)
/-- the pieces of a part in stock -/
def stockOf (pcs : List Pc) (z : Str) : List Nat := (pcs.zipIdx.filter fun x => decide (x.1.part = z) && decide (x.1.state = sStock)).map (·.2)
/-- what a piece takes -/
def Fl.give (fs : Fl) (k0 : Nat) : Hold → Fl
  | .pc k1 => match fs.pcs[k1]?, fs.pcs[k0]? with
    | some q, some p => { fs with pcs := (fs.pcs.set k1 { q with state := "within", above := some k0 }).set k0 { p with holds := p.holds ++ [.pc k1], cost := p.cost + q.cost } }
    | _, _ => fs
  | .lot j m => match fs.lots[j]?, fs.pcs[k0]? with
    | some x, some p => { fs with lots := fs.lots.set j { x with left := x.left - m }, pcs := fs.pcs.set k0 { p with holds := p.holds ++ [.lot j m], cost := p.cost + m * x.price } }
    | _, _ => fs
end PM
namespace PM
abbrev newPc (z : PySem.Str) : Pc := ⟨z, "making", 0, 0, [], none, none, 0⟩
end PM

namespace WK
open PySem PySem.Spec PyProof.Rows L2 PM
/-! the cells of a floor -/
structure ALot where
  a : Addr
  dx : Addr
  s : Lt
structure APc where
  a : Addr
  dx : Addr
  l : Addr
  p : Addr
  s : Pc
structure AFl where
  f : Addr
  dx : Addr
  bk : Addr
  la : Addr
  pa : Addr
  na : Addr
  rt : V
  nv : List V
  rs : List PRow
  rates : List Int
  lots : List ALot
  pcs : List APc
  book : List Deed
  spent : Int
  lost : Int
def AFl.st (A : AFl) : Fl := ⟨A.rs, A.rates, A.lots.map (·.s), A.pcs.map (·.s), A.book, A.spent, A.lost⟩
def optN : Option Nat → V
  | none => .non
  | some k => .int (k : Nat)
def optI : Option Int → V
  | none => .non
  | some k => .int k
abbrev flF (A : AFl) : List (Str × V) := [("book", .ref A.bk), ("rates", A.rt), ("lots", .ref A.la), ("pieces", .ref A.pa), ("notes", .ref A.na), ("spent", .int A.spent), ("lost", .int A.lost)]
abbrev ltF (s : Lt) : List (Str × V) := [("part", .str s.part), ("left", .int s.left), ("price", .int s.price)]
abbrev pcF (P : APc) : List (Str × V) := [("part", .str P.s.part), ("state", .str P.s.state), ("at", .int P.s.at_), ("cost", .int P.s.cost), ("lots", .ref P.l), ("pieces", .ref P.p), ("above", optN P.s.above), ("client", optI P.s.client)]
def lotKV (hs : List Hold) : List (Key × V) := (lotsOf hs).map fun x => (.inl (x.1 : Int), .int x.2)
def pcV (hs : List Hold) : List V := (pcsOf hs).map fun (k : Nat) => V.int (k : Int)
abbrev lotC (CL : Addr) (x : ALot) : Addr × HO := (x.a, .ins CL x.dx (ltF x.s))
abbrev pcI (CI : Addr) (P : APc) : Addr × HO := (P.a, .ins CI P.dx (pcF P))
abbrev pcL (P : APc) : Addr × HO := (P.l, .dK (lotKV P.s.holds))
abbrev pcP (P : APc) : Addr × HO := (P.p, .lst (pcV P.s.holds))
def pcC (CI : Addr) (P : APc) : Led := [pcI CI P, pcL P, pcP P]
def FL (CF CL CI : Addr) (A : AFl) : Led :=
  (A.f, .ins CF A.dx (flF A)) :: (A.la, .lst (A.lots.map fun x => .ref x.a)) :: (A.pa, .lst (A.pcs.map fun P => .ref P.a)) :: (A.na, .lst A.nv) :: (A.lots.map (lotC CL) ++ A.pcs.flatMap (pcC CI))
/-- the book of a floor -/
def BookAt (K : PySem.W.Frag) (CP : Addr) (B : Hp) (p : Addr) (rs : List PRow) : Prop := ∃ dx a l rkv lkv, B p = some (.ins CP dx (fldsP a l)) ∧ B a = some (.dK rkv) ∧ B l = some (.dK lkv) ∧ RowKV K B rkv rs ∧ LedKV B lkv (ledOf rs)
theorem BookAt.up {K : PySem.W.Frag} {CP : Addr} {B B' : Hp} {p : Addr} {rs : List PRow} (e : Ex B B') (h : BookAt K CP B p rs) : BookAt K CP B' p rs := by
  obtain ⟨dx, a, l, rkv, lkv, h1, h2, h3, h4, h5⟩ := h
  exact ⟨dx, a, l, rkv, lkv, e _ _ h1, e _ _ h2, e _ _ h3, h4.up e, h5.up e⟩
structure FB (K : PySem.W.Frag) (CP : Addr) (B : Hp) (A : AFl) : Prop where
  book : BookAt K CP B A.bk A.rs
  rates : Dp K B A.rt (.tuple (A.rates.map .int))
  notes : DpAll K B A.nv (A.book.map encDeed)
  good : GoodBook A.rs
  six : A.rates.length = 6
  few : A.lots.length + A.pcs.length ≤ A.book.length
theorem FB.up {K : PySem.W.Frag} {CP : Addr} {B B' : Hp} {A : AFl} (e : Ex B B') (h : FB K CP B A) : FB K CP B' A := ⟨h.book.up e, h.rates.up e, h.notes.up e, h.good, h.six, h.few⟩
/-- what the text says of the classes -/
structure FlK (K : PySem.W.Frag) (CP CF CL CI : Addr) : Prop where
  cP : Cls K CP
  cF : Cls K CF
  cL : Cls K CL
  cI : Cls K CI
  a1 : NoAttr K CP "rows"
  a2 : NoAttr K CP "led"
  b1 : NoAttr K CF "book"
  b2 : NoAttr K CF "rates"
  b3 : NoAttr K CF "lots"
  b4 : NoAttr K CF "pieces"
  b5 : NoAttr K CF "notes"
  b6 : NoAttr K CF "spent"
  b7 : NoAttr K CF "lost"
  c1 : NoAttr K CL "part"
  c2 : NoAttr K CL "left"
  c3 : NoAttr K CL "price"
  d1 : NoAttr K CI "part"
  d2 : NoAttr K CI "state"
  d3 : NoAttr K CI "at"
  d4 : NoAttr K CI "cost"
  d5 : NoAttr K CI "lots"
  d6 : NoAttr K CI "pieces"
  d7 : NoAttr K CI "above"
  d8 : NoAttr K CI "client"
section
variable {F : Ent} {B H : Hp} {L : Led} {CF CL CI : Addr} {A : AFl} {P : APc} {x : ALot} {k j : Nat}
theorem Ok.flF (S : Ok F B (FL CF CL CI A ++ L) H) : H A.f = some (.ins CF A.dx (flF A)) := S.mem (.head _)
theorem mem_lot (h : A.lots[j]? = some x) : lotC CL x ∈ FL CF CL CI A ++ L := by
  refine List.mem_append_left _ ?_
  exact .tail _ (.tail _ (.tail _ (.tail _ (List.mem_append_left _ (List.mem_map.mpr ⟨x, List.mem_of_getElem? h, rfl⟩)))))
theorem mem_pc {q : Addr × HO} (h : A.pcs[k]? = some P) (hq : q ∈ pcC CI P) : q ∈ FL CF CL CI A ++ L := by
  refine List.mem_append_left _ ?_
  exact .tail _ (.tail _ (.tail _ (.tail _ (List.mem_append_right _ (List.mem_flatMap.mpr ⟨P, List.mem_of_getElem? h, hq⟩)))))
end
end WK

namespace WK
open PySem PySem.Spec PyProof.Rows L2 PM
/-! attributes as targets -/
def gAtt (K : PySem.W.Frag) (to : TE) (f : Str) : TG := fun v σ H Q => to σ H fun x H2 => ∃ a C dx fs, x = .ref a ∧ H2 a = some (.ins C dx fs) ∧ Cls K C ∧ NoAttr K C f ∧ fs.length < 1000 ∧ Q σ (upd H2 a (.ins C dx (putF f v fs)))
def AttQ (K : PySem.W.Frag) (f : Str) (y : V) (σ : L2.St) (Q : L2.St → Hp → Prop) : VK := fun x H2 => ∃ a C dx fs, x = .ref a ∧ H2 a = some (.ins C dx fs) ∧ Cls K C ∧ NoAttr K C f ∧ fs.length < 1000 ∧ Q σ (upd H2 a (.ins C dx (putF f y fs)))
theorem r_gatt {K : PySem.W.Frag} {σ : L2.St} {H : Hp} {to : TE} {f : Str} {v : V} {Q : L2.St → Hp → Prop} (k : to σ H (AttQ K f v σ Q)) : gAtt K to f v σ H Q := k
theorem ps_fldK (K : PySem.W.Frag) {X : Cx} {o value : Expr} {f : Str} {pos pos' : Pos} {ta tv : TE} (ha : PE X o ta) (hv : PE X value tv) (hs : swapsWith value (some (.Attribute o f pos')) pos.line X.env = pure false) (hK : X.K = K := by rfl) : PS X (.Assign [.Attribute o f pos'] value pos) (sFld K ta tv f) := by
  subst hK
  exact ps_fld ha hv hs
/-! o.f op= e -/
def AfQ (a C : Addr) (f : Str) (D : Ends) (σ : L2.St) : VK := fun z H3 => ∃ dx' fs', H3 a = some (.ins C dx' fs') ∧ fs'.length < 1000 ∧ D.nx σ (upd H3 a (.ins C dx' (putF f z fs')))
section
variable {K : PySem.W.Frag} {σ : L2.St} {H : Hp} {tv : TE} {f : Str} {Q : VK} {D : Ends} {a C dx : Addr} {fs : List (Str × V)} {v z : V} {rd : V → V → Hp → VK → Prop}
theorem afdQ (h : H a = some (.ins C dx fs)) (c : Cls K C) (n : NoAttr K C f) (l : fs.lookup f = some v) (k : tv σ H fun y H2 => rd v y H2 (AfQ a C f D σ)) : AFdQ K f rd tv D σ (.ref a) H := ⟨a, C, dx, fs, v, rfl, h, c, n, l, k⟩
theorem r_rAdd {i j : Int} (k : Q (.int (i + j)) H) : rAdd (.int i) (.int j) H Q := ⟨i, j, rfl, rfl, k⟩
theorem r_rSub {i j : Int} (k : Q (.int (i - j)) H) : rSub (.int i) (.int j) H Q := ⟨i, j, rfl, rfl, k⟩
end
def Pr3Q (Q : V → V → V → Hp → Prop) (vs : List V) (H : Hp) : Prop := ∃ v w u, vs = [v, w, u] ∧ Q v w u H
theorem r_par3 {i j l : Nat} {tas : TA} {σ : L2.St} {H : Hp} {D : Ends} (k : tas σ H (Pr3Q fun u v w H1 => D.nx (((σ.set i (some u)).set j (some v)).set l (some w)) H1)) : tPar3 i j l tas D σ H := k
theorem r_par33 {Q : V → V → V → Hp → Prop} {v w u : V} {H : Hp} (k : Q v w u H) : Pr3Q Q [v, w, u] H := ⟨v, w, u, rfl, k⟩
/-! in a floor -/
section
variable {K : PySem.W.Frag} {σ : L2.St} {D : Ends} {Qg : L2.St → Hp → Prop} {F : Ent} {B H : Hp} {L : Led} {CF CL CI : Addr} {A A' : AFl} {P : APc} {x : ALot} {k j : Nat} {f : Str} {y : V}
/-! membership, for reading -/
theorem mF : (A.f, HO.ins CF A.dx (flF A)) ∈ FL CF CL CI A ++ L := .head _
theorem mFl : (A.la, HO.lst (A.lots.map fun x => .ref x.a)) ∈ FL CF CL CI A ++ L := .tail _ (.head _)
theorem mFp : (A.pa, HO.lst (A.pcs.map fun P => .ref P.a)) ∈ FL CF CL CI A ++ L := .tail _ (.tail _ (.head _))
theorem mFn : (A.na, HO.lst A.nv) ∈ FL CF CL CI A ++ L := .tail _ (.tail _ (.tail _ (.head _)))
theorem mFlot (h : A.lots[j]? = some x) : (x.a, HO.ins CL x.dx (ltF x.s)) ∈ FL CF CL CI A ++ L := mem_lot h
theorem mFpc (h : A.pcs[k]? = some P) : (P.a, HO.ins CI P.dx (pcF P)) ∈ FL CF CL CI A ++ L := mem_pc h (.head _)
theorem mFpl (h : A.pcs[k]? = some P) : (P.l, HO.dK (lotKV P.s.holds)) ∈ FL CF CL CI A ++ L := mem_pc h (.tail _ (.head _))
theorem mFpp (h : A.pcs[k]? = some P) : (P.p, HO.lst (pcV P.s.holds)) ∈ FL CF CL CI A ++ L := mem_pc h (.tail _ (.tail _ (.head _)))
/-! .. with nothing ahead of it -/
theorem mFpcE {a : Addr} (h : A.pcs[k]? = some P) (e : a = P.a) : (a, HO.ins CI P.dx (pcF P)) ∈ FL CF CL CI A ++ L := e ▸ mFpc h
theorem mFplE {a : Addr} (h : A.pcs[k]? = some P) (e : a = P.l) : (a, HO.dK (lotKV P.s.holds)) ∈ FL CF CL CI A ++ L := e ▸ mFpl h
theorem mFppE {a : Addr} (h : A.pcs[k]? = some P) (e : a = P.p) : (a, HO.lst (pcV P.s.holds)) ∈ FL CF CL CI A ++ L := e ▸ mFpp h
end
end WK
namespace WK
open PySem PySem.Spec PyProof.Rows L2 PM
/-- what reads alike in all that comes of an entry -/
def Stays (K : PySem.W.Frag) (F : Ent) (B : Hp) (v : V) (xs : List V) : Prop := ∃ a, v = .ref a ∧ ((∀ B' L H, Ex B B' → Ok F B' L H → SqL K H a xs) ∨ SqT K B a xs)
section
variable {P : Program} {w : World} {K : PySem.W.Frag} {H : Hp} {Q : VK} {a : Addr} {z : Str} {zs : List Str}
end
end WK
namespace WK
open PySem PySem.Spec PyProof.Rows L2 PM
section
variable {F : Ent} {B H : Hp} {L : Led} {CF CL CI : Addr} {A : AFl}
end
end WK
namespace WK
open PySem PySem.Spec PyProof.Rows L2 PM
end WK
namespace WK
open PySem PySem.Spec PyProof.Rows L2 PM
/-- enumerate(a list of one's own) -/
theorem src_enumO {α : Type} {K : PySem.W.Frag} {a : Addr} (g : α → V) (as : List α) : Src (Ite K a) (fun _ L => (a, HO.lst (as.map g)) ∈ L) as.zipIdx (fun B x y => ∃ T, x = .ref T ∧ B T = some (.tup [.int (y.2 : Nat), g y.1])) := by
  have hl : (as.map g).length = as.length := List.length_map _
  refine ⟨_, _, (by rw [List.length_zipIdx]; exact hl ▸ walk_enum (K := K) (a := a) (xs := as.map g)), fun F B L H S gm => S.sqMem gm, fun F B L i H x H' S gm y hi => ?_⟩
  obtain ⟨T, x', y', rfl, n, rfl, e1, e2⟩ := y
  cases e1
  dsimp only at e2
  rw [List.getElem?_map] at e2
  cases e : as[i]? with
  | none => rw [e] at e2; cases e2
  | some z =>
    rw [e] at e2
    cases e2
    exact ⟨(z, i), upd B T (.tup [.int (i : Nat), g z]), getElem_zipIdx e, S.exB n, S.newB n, T, rfl, upd_same⟩
section
variable {F : Ent} {B H : Hp} {L : Led} {CF CL CI : Addr} {A : AFl} {P : APc} {k : Nat}
abbrev APc.hold (P : APc) (h : Hold) : APc := { P with s := { P.s with holds := P.s.holds ++ [h] } }
end
end WK
namespace WK
open PySem PySem.Spec PyProof.Rows L2 PM
section
variable {Pg : Program} {w : World} {K : PySem.W.Frag} {Q : VK} {F : Ent} {B H : Hp} {L : Led} {CF CL CI : Addr} {A : AFl} {P : APc} {k : Nat}
end
end WK

namespace PM
open PySem L2 WK
def lotHolds (xs : List (Nat × Int)) : List Hold := xs.map fun x => .lot x.1 x.2
def pcHolds (ks : List Nat) : List Hold := ks.map .pc
def isBought (rs : List PRow) (z : Str) : Bool := match PM.rowOf rs z with | some r => r.needs.isEmpty && r.steps.isEmpty | none => false
/-- what is taken of one need -/
def Fl.taken (fs : Fl) (z : Str) (m : Int) : Option (List Hold) :=
  if isBought fs.rs z then (if (takeLots fs.lots z m).2 = 0 then some (lotHolds (takeLots fs.lots z m).1) else none)
  else if m.toNat ≤ (stockOf fs.pcs z).length then some (pcHolds ((stockOf fs.pcs z).take m.toNat)) else none
def Fl.giveAll (fs : Fl) (k0 : Nat) (hs : List Hold) : Fl := hs.foldl (fun s h => s.give k0 h) fs
/-- a piece begun, holding these -/
def Fl.begin_ (fs : Fl) (z : Str) (noSteps : Bool) (hs : List Hold) : Fl :=
  let f1 := { fs with pcs := fs.pcs ++ [newPc z] }.giveAll fs.pcs.length hs
  { f1 with pcs := if noSteps = true then f1.pcs.modify fs.pcs.length (fun p => { p with state := "made" }) else f1.pcs, book := f1.book ++ [.begin_ z] }
/-- what may be put into a piece -/
structure GiveOk (nl np k0 : Nat) (old hs : List Hold) : Prop where
  pc : ∀ k, Hold.pc k ∈ hs → k < np ∧ k ≠ k0
  lot : ∀ j m, Hold.lot j m ∈ hs → j < nl ∧ 0 ≤ m ∧ m < 1000
  nd : ((old ++ hs).filterMap fun h => match h with | .lot j _ => some j | .pc _ => none).Nodup
  len : old.length + hs.length < 10000
theorem GiveOk.head {nl np k0 : Nat} {old hs : List Hold} {h : Hold} (g : GiveOk nl np k0 old (h :: hs)) : GiveOk nl np k0 (old ++ [h]) hs where
  pc := fun k hk => g.pc k (.tail _ hk)
  lot := fun j m hk => g.lot j m (.tail _ hk)
  nd := by have := g.nd; rw [show old ++ h :: hs = (old ++ [h]) ++ hs by simp] at this; exact this
  len := by have := g.len; rw [List.length_append]; simp at this ⊢; omega
theorem GiveOk.fresh {nl np k0 : Nat} {old hs : List Hold} {j : Nat} {m : Int} (g : GiveOk nl np k0 old (.lot j m :: hs)) : ∀ m', Hold.lot j m' ∉ old := fun m' hm => by
  have := g.nd
  rw [List.filterMap_append, List.nodup_append] at this
  exact this.2.2 j (List.mem_filterMap.mpr ⟨_, hm, rfl⟩) j (List.mem_filterMap.mpr ⟨_, .head _, rfl⟩) rfl
end PM

namespace WK
open PySem PySem.Spec PyProof.Rows L2
end WK
namespace WK
open PySem PySem.Spec PyProof.Rows L2 PM
end WK
namespace WK
open PySem PySem.Spec PyProof.Rows L2 PM
end WK

namespace WK
open PySem PySem.Spec PyProof.Rows L2 PM
end WK
namespace WK
open PySem PySem.Spec PyProof.Rows L2
theorem call_int_blR {X : Cx} : CallR X (.type "int") (fun xs H Q => ∃ b, xs = [.bl b] ∧ Q (.int (if b = true then 1 else 0)) H) := by
  intro pins s σ H xs us Q I rs h
  obtain ⟨b, rfl, h⟩ := h
  cases rs with
  | cons r1 rs =>
    cases rs
    obtain rfl := r1
    exact PySem.call_int_bool ⟨.int _, H, I.tok _, ⟨_, rfl⟩, h⟩
/-- int(bool) -/
theorem v_intBl {P : Program} {w : World} {K : PySem.W.Frag} {H : Hp} {Q : VK} {b : Bool} (k : Q (.int (if b = true then 1 else 0)) H) : CallU P w K (.type "int") [.bl b] H Q :=
  .of (fun _ _ => call_int_blR) ⟨b, rfl, k⟩
end WK

namespace PM
open PySem L2 WK
/-- another piece in the place of one -/
def replPc (o n : Nat) : List Hold → List Hold
  | [] => []
  | .pc x :: t => if x = o then .pc n :: t else .pc x :: replPc o n t
  | .lot j m :: t => .lot j m :: replPc o n t
/-- a held piece is changed for another -/
def Fl.swap (fs : Fl) (k o n : Nat) (p q r : Pc) : Fl :=
  { fs with pcs := (((fs.pcs.set k { p with holds := replPc o n p.holds, cost := p.cost + (r.cost - q.cost), state := "made" }).set o { q with state := "bad", above := none }).set n { r with state := "within", above := some k }), book := fs.book ++ [.swap k o n] }
end PM

namespace WK
open PySem PySem.Spec PyProof.Rows L2 PM
section
variable {Pg : Program} {w : World} {K : PySem.W.Frag} {Q : VK} {F : Ent} {B H : Hp} {L : Led} {CF CL CI : Addr} {A : AFl} {P : APc} {k : Nat} {a : Addr}
abbrev APc.withHolds (P : APc) (hs : List Hold) : APc := { P with s := { P.s with holds := hs } }
end
end WK

namespace WK
open PySem PySem.Spec PyProof.Rows L2 PM
/-- a floor, its pieces' cells told apart -/
def FLg (CF CL : Addr) (A : AFl) (G : Led) : Led :=
  (A.f, .ins CF A.dx (WK.flF A)) :: (A.la, .lst (A.lots.map fun x => .ref x.a)) :: (A.pa, .lst (A.pcs.map fun P => .ref P.a)) :: (A.na, .lst A.nv) :: (A.lots.map (lotC CL) ++ G)
section
variable {Pg : Program} {w : World} {K : PySem.W.Frag} {Q : VK} {F : Ent} {B H : Hp} {L G : Led} {CF CL CI : Addr} {A : AFl} {P : APc} {x : ALot} {j k : Nat} {D : Ends} {σ : L2.St} {f : Str} {y : V}
end
end WK
namespace PM
open PySem L2 WK
def stripLot (s : List Lt × Int) (x : Nat × Int) : List Lt × Int := match s.1[x.1]? with
  | some l => (s.1.set x.1 { l with left := l.left + x.2 }, s.2 + x.2 * l.price)
  | none => s
def stripPc (s : List Pc × Int) (k : Nat) : List Pc × Int := match s.1[k]? with
  | some q => (s.1.set k { q with state := "made", above := none }, s.2 + q.cost)
  | none => s
/-- a piece is taken apart -/
def Fl.strip (fs : Fl) (k : Nat) (p : Pc) : Fl :=
  { fs with lots := ((lotsOf p.holds).foldl stripLot (fs.lots, 0)).1, pcs := ((pcsOf p.holds).foldl stripPc (fs.pcs, ((lotsOf p.holds).foldl stripLot (fs.lots, 0)).2)).1.set k { p with cost := 0, holds := [], state := "stripped", own := 0 }, lost := fs.lost + (p.cost - ((pcsOf p.holds).foldl stripPc (fs.pcs, ((lotsOf p.holds).foldl stripLot (fs.lots, 0)).2)).2), book := fs.book ++ [.strip k] }
end PM

namespace WK
open PySem PySem.Spec PyProof.Rows L2 PM
/-! the cells of the law's own floor: the same pure floor, told by dicts and lists -/
structure MLot where
  a : Addr
  s : Lt
structure MPc where
  a : Addr
  h : Addr
  hv : List V
  s : Pc
structure AMl where
  w : Addr
  dn : Addr
  ds : Addr
  rt : V
  la : Addr
  pa : Addr
  ba : Addr
  bv : List V
  rs : List PRow
  rates : List Int
  lots : List MLot
  pcs : List MPc
  book : List Deed
  spent : Int
  lost : Int
def AMl.st (M : AMl) : Fl := ⟨M.rs, M.rates, M.lots.map (·.s), M.pcs.map (·.s), M.book, M.spent, M.lost⟩
def encHold : Hold → PyData
  | .lot j m => .tuple [.str "lot", .int j, .int m]
  | .pc k => .tuple [.str "piece", .int k, .int 1]
abbrev wKV (M : AMl) : List (Key × V) := [(.inr "needs", .ref M.dn), (.inr "steps", .ref M.ds), (.inr "rates", M.rt), (.inr "lots", .ref M.la), (.inr "pieces", .ref M.pa), (.inr "lost", .int M.lost), (.inr "paid", .int M.spent), (.inr "book", .ref M.ba)]
abbrev mpKV (P : MPc) : List (Key × V) := [(.inr "part", .str P.s.part), (.inr "state", .str P.s.state), (.inr "at", .int P.s.at_), (.inr "minutes", .int P.s.own), (.inr "holds", .ref P.h), (.inr "client", optI P.s.client)]
abbrev mlV (s : Lt) : List V := [.str s.part, .int s.left, .int s.price]
abbrev mLotC (x : MLot) : Addr × HO := (x.a, .lst (mlV x.s))
def mPcC (P : MPc) : Led := [(P.a, .dK (mpKV P)), (P.h, .lst P.hv)]
def ML (M : AMl) : Led :=
  (M.w, .dK (wKV M)) :: (M.la, .lst (M.lots.map fun x => .ref x.a)) :: (M.pa, .lst (M.pcs.map fun P => .ref P.a)) :: (M.ba, .lst M.bv) :: (M.lots.map mLotC ++ M.pcs.flatMap mPcC)
/-- what of it stays: needs and steps by names, the rates, the holds and the book as data -/
structure MB (K : PySem.W.Frag) (B : Hp) (M : AMl) : Prop where
  rates : Dp K B M.rt (.tuple (M.rates.map .int))
  book : DpAll K B M.bv (M.book.map encDeed)
  holds : ∀ P ∈ M.pcs, DpAll K B P.hv (P.s.holds.map encHold)
theorem MB.up {K : PySem.W.Frag} {B B' : Hp} {M : AMl} (e : Ex B B') (h : MB K B M) : MB K B' M := ⟨h.rates.up e, h.book.up e, fun P hP => (h.holds P hP).up e⟩
section
variable {F : Ent} {B H : Hp} {L : Led} {M : AMl} {P : MPc} {x : MLot} {k j : Nat}
theorem mW : (M.w, HO.dK (wKV M)) ∈ ML M ++ L := .head _
theorem mWl : (M.la, HO.lst (M.lots.map fun x => .ref x.a)) ∈ ML M ++ L := .tail _ (.head _)
theorem mWp : (M.pa, HO.lst (M.pcs.map fun P => .ref P.a)) ∈ ML M ++ L := .tail _ (.tail _ (.head _))
theorem mWb : (M.ba, HO.lst M.bv) ∈ ML M ++ L := .tail _ (.tail _ (.tail _ (.head _)))
theorem mWlot (h : M.lots[j]? = some x) : mLotC x ∈ ML M ++ L :=
  .tail _ (.tail _ (.tail _ (.tail _ (List.mem_append_left _ (List.mem_append_left _ (List.mem_map.mpr ⟨x, List.mem_of_getElem? h, rfl⟩))))))
theorem mWpc {q : Addr × HO} (h : M.pcs[k]? = some P) (hq : q ∈ mPcC P) : q ∈ ML M ++ L :=
  .tail _ (.tail _ (.tail _ (.tail _ (List.mem_append_left _ (List.mem_append_right _ (List.mem_flatMap.mpr ⟨P, List.mem_of_getElem? h, hq⟩))))))
end
end WK
namespace WK
open PySem PySem.Spec PyProof.Rows L2 PM
section
variable {Pg : Program} {w : World} {K : PySem.W.Frag} {F : Ent} {B H : Hp} {L : Led} {M : AMl} {P : MPc} {x : MLot} {k j : Nat} {f : Str} {y : V}
end
end WK
namespace WK
open PySem PySem.Spec PyProof.Rows L2 PM
section
variable {Pg : Program} {w : World} {K : PySem.W.Frag} {Q : VK} {F : Ent} {B H : Hp} {L : Led} {M : AMl}
end
end WK

namespace WK
open PySem PySem.Spec PyProof.Rows L2
section
variable {X : Cx}
end
section
variable {P : Program} {w : World} {K : PySem.W.Frag} {H B : Hp} {Q : VK} {F : Ent} {L : Led} {a b p : Addr} {xs : List V} {kvs more : List (Key × V)} {σ : L2.St}
theorem v_rep {i : Int} (S : Ok F B L H) (h : H a = some (.lst xs)) (h0 : 0 ≤ i) (h1 : i < 100000) (hz : xs.length ≤ 100) (k : ∀ r H', Ok F B ((r, .lst (List.replicate i.toNat xs).flatten) :: L) H' → Q (.ref r) H') : OpU P w K (binaryOp .Mult) (.ref a) (.int i) H Q := by
  refine .of (fun _ _ => op_rep) ⟨a, i, xs, rfl, rfl, h, by omega, by omega, ?_, fun r hr => k r _ (S.newL hr)⟩
  rw [sizeLine_eq]
  have h2 : i.toNat ≤ 100000 := by omega
  have := Nat.mul_le_mul hz h2
  omega
/-! dict displays -/
def DispQ (p : Addr) (Q : VK) (ps : List (V × V)) (H : Hp) : Prop := H p = some (.dK []) ∧ ∃ kvs : List (Key × V), ps = kvs.map (fun kv => (kV kv.1, kv.2)) ∧ kvs.length ≤ 15 ∧ Q (.ref p) (upd H p (.dK (mergeK [] kvs)))
theorem r_pnil {QP : List (V × V) → Hp → Prop} (k : QP [] H) : tPairs [] σ H QP := k
theorem r_pcons {tk tv : TE} {trs : List (TE × TE)} {QP : List (V × V) → Hp → Prop} (k : tk σ H fun x H1 => tv σ H1 fun y H2 => tPairs trs σ H2 fun ps H3 => QP ((x, y) :: ps) H3) : tPairs ((tk, tv) :: trs) σ H QP := k
end
end WK
namespace WK
open PySem PySem.Spec PyProof.Rows L2 PM
/-! the law's own floor: what of it stays -/
inductive ColKV (K : PySem.W.Frag) (B : Hp) (enc : PRow → PyData) : List (Key × V) → List PRow → Prop
  | nil : ColKV K B enc [] []
  | cons {v r kvs rs} : Dp K B v (enc r) → ColKV K B enc kvs rs → ColKV K B enc ((.inr r.name, v) :: kvs) (r :: rs)
abbrev encNs (r : PRow) : PyData := .tuple (r.needs.map encNeed)
abbrev encSs (r : PRow) : PyData := .tuple (r.steps.map encStep)
section
variable {K : PySem.W.Frag} {B B' : Hp} {enc : PRow → PyData} {kvs : List (Key × V)} {rs : List PRow}
theorem ColKV.up (e : Ex B B') (h : ColKV K B enc kvs rs) : ColKV K B' enc kvs rs := by
  induction h with
  | nil => exact .nil
  | cons h _ ih => exact .cons (h.up e) ih
theorem ColKV.keys (h : ColKV K B enc kvs rs) : kvs.map (·.1) = (rs.map (·.name)).map Sum.inr := by
  induction h with
  | nil => rfl
  | cons _ _ ih => simp only [List.map_cons, ih]
theorem ColKV.get {z : Str} {r : PRow} (h : ColKV K B enc kvs rs) (e : PM.rowOf rs z = some r) : ∃ v, valV kvs (.inr z) = some v ∧ Dp K B v (enc r) := by
  induction h with
  | nil => simp [PM.rowOf] at e
  | @cons v q kvs rs hv h ih =>
    unfold PM.rowOf at e ih
    by_cases hz : q.name = z
    · rw [List.find?_cons_of_pos (by simpa using hz)] at e
      cases e
      exact ⟨v, by unfold valV; rw [List.find?_cons_of_pos (by simp [hz])]; rfl, hv⟩
    · rw [List.find?_cons_of_neg (by simpa using hz)] at e
      obtain ⟨u, h1, h2⟩ := ih e
      exact ⟨u, by unfold valV at h1 ⊢; rw [List.find?_cons_of_neg (by simp [hz])]; exact h1, h2⟩
theorem ColKV.none {z : Str} (h : ColKV K B enc kvs rs) (e : PM.rowOf rs z = none) : valV kvs (.inr z) = none := by
  refine valV_none fun hm => ?_
  rw [h.keys] at hm
  obtain ⟨y, hy, e2⟩ := List.mem_map.mp hm
  obtain ⟨r, hr, rfl⟩ := List.mem_map.mp hy
  unfold PM.rowOf at e
  rw [List.find?_eq_none] at e
  have := e r hr
  rw [Sum.inr.inj e2] at this
  simp at this
theorem ColKV.some {z : Str} (h : ColKV K B enc kvs rs) : (valV kvs (.inr z)).isSome = (PM.rowOf rs z).isSome := by
  cases e : PM.rowOf rs z with
  | none => rw [h.none e]; rfl
  | some r => obtain ⟨v, hv, _⟩ := h.get e; rw [hv]; rfl
end
structure MS (K : PySem.W.Frag) (B : Hp) (M : AMl) : Prop where
  mb : MB K B M
  needs : ∃ kvs, B M.dn = some (.dK kvs) ∧ ColKV K B encNs kvs M.rs
  steps : ∃ kvs, B M.ds = some (.dK kvs) ∧ ColKV K B encSs kvs M.rs
theorem MS.up {K : PySem.W.Frag} {B B' : Hp} {M : AMl} (e : Ex B B') (h : MS K B M) : MS K B' M := by
  obtain ⟨h1, ⟨k1, a1, b1⟩, ⟨k2, a2, b2⟩⟩ := h
  exact ⟨h1.up e, ⟨k1, e _ _ a1, b1.up e⟩, ⟨k2, e _ _ a2, b2.up e⟩⟩
/-- the cells of the law's floor, read -/
def MH (H : Hp) (M : AMl) : Prop := ∀ c ∈ ML M, H c.1 = some c.2
section
variable {F : Ent} {B H : Hp} {L : Led} {M : AMl} {P : MPc} {x : MLot} {k j : Nat}
theorem MH.w (h : MH H M) : H M.w = some (.dK (wKV M)) := h _ (.head _)
theorem MH.la (h : MH H M) : H M.la = some (.lst (M.lots.map fun x => .ref x.a)) := h _ (.tail _ (.head _))
theorem MH.pa (h : MH H M) : H M.pa = some (.lst (M.pcs.map fun P => .ref P.a)) := h _ (.tail _ (.tail _ (.head _)))
theorem MH.ba (h : MH H M) : H M.ba = some (.lst M.bv) := h _ (.tail _ (.tail _ (.tail _ (.head _))))
theorem MH.lot (h : MH H M) (e : M.lots[j]? = some x) : H x.a = some (.lst (mlV x.s)) :=
  h (x.a, .lst (mlV x.s)) (.tail _ (.tail _ (.tail _ (.tail _ (List.mem_append_left _ (List.mem_map.mpr ⟨x, List.mem_of_getElem? e, rfl⟩))))))
theorem MH.pc (h : MH H M) (e : M.pcs[k]? = some P) : H P.a = some (.dK (mpKV P)) :=
  h (P.a, .dK (mpKV P)) (.tail _ (.tail _ (.tail _ (.tail _ (List.mem_append_right _ (List.mem_flatMap.mpr ⟨P, List.mem_of_getElem? e, .head _⟩))))))
theorem MH.kept {B0 : Hp} {H0 : Hp} (h : MH H0 M) (S : Ok ⟨B0, H0, []⟩ B L H) : MH H M := fun c hc => S.kept (h c hc)
theorem MS.hold {K : PySem.W.Frag} (h : MS K B M) (e : M.pcs[k]? = some P) : DpAll K B P.hv (P.s.holds.map encHold) := h.mb.holds P (List.mem_of_getElem? e)
theorem wk_needs : valV (wKV M) (.inr "needs") = some (.ref M.dn) := rfl
theorem wk_steps : valV (wKV M) (.inr "steps") = some (.ref M.ds) := rfl
theorem wk_rates : valV (wKV M) (.inr "rates") = some M.rt := rfl
theorem wk_lots : valV (wKV M) (.inr "lots") = some (.ref M.la) := rfl
theorem wk_pieces : valV (wKV M) (.inr "pieces") = some (.ref M.pa) := rfl
theorem wk_lost : valV (wKV M) (.inr "lost") = some (.int M.lost) := rfl
theorem wk_paid : valV (wKV M) (.inr "paid") = some (.int M.spent) := rfl
theorem wk_book : valV (wKV M) (.inr "book") = some (.ref M.ba) := rfl
theorem mk_part : valV (mpKV P) (.inr "part") = some (.str P.s.part) := rfl
theorem mk_state : valV (mpKV P) (.inr "state") = some (.str P.s.state) := rfl
theorem mk_at : valV (mpKV P) (.inr "at") = some (.int P.s.at_) := rfl
theorem mk_minutes : valV (mpKV P) (.inr "minutes") = some (.int P.s.own) := rfl
theorem mk_holds : valV (mpKV P) (.inr "holds") = some (.ref P.h) := rfl
theorem mk_client : valV (mpKV P) (.inr "client") = some (optI P.s.client) := rfl
end
end WK
namespace WK
open PySem PySem.Spec PyProof.Rows L2 PM
theorem rdAt {H : Hp} {a : Addr} {o : HO} (h : H a = some o) : Rd H a o := .inl h
section
variable {L : Led} {M : AMl} {P : MPc} {x : MLot} {k j : Nat}
theorem mWpcA (h : M.pcs[k]? = some P) : (P.a, HO.dK (mpKV P)) ∈ ML M ++ L := mWpc h (.head _)
theorem mWpcH (h : M.pcs[k]? = some P) : (P.h, HO.lst P.hv) ∈ ML M ++ L := mWpc h (.tail _ (.head _))
theorem mWlotA (h : M.lots[j]? = some x) : (x.a, HO.lst (mlV x.s)) ∈ ML M ++ L := mWlot h
end
end WK
namespace WK
open PySem PySem.Spec PyProof.Rows L2 PM
theorem Ok.sqKept {K : PySem.W.Frag} {B0 H0 B H : Hp} {L : Led} {a : Addr} {xs : List V} (S : Ok ⟨B0, H0, []⟩ B L H) (h : H0 a = some (.lst xs)) : SqL K H a xs := .inl (.inl (S.kept h))
theorem src_rng {n : Nat} : Src (Itr 0 n) (fun _ _ => True) (List.range n) (fun _ x i => x = .int ((i : Nat) : Int)) := by
  obtain ⟨G, Y, w, h1, h2⟩ := (src_range (lo := 0) (n := n)).ex
  refine ⟨G, Y, w, h1, fun F B L i H x H' S g y hi => ?_⟩
  obtain ⟨a, B', e, ex, S', r⟩ := h2 F B L i H x H' S g y hi
  exact ⟨a, B', e, ex, S', by rw [r, Int.zero_add]⟩
theorem rng_at {n i a : Nat} (h : (List.range n)[i]? = some a) : a = i ∧ i < n := by
  have h1 := (List.getElem?_eq_some_iff.mp h).1
  rw [List.length_range] at h1
  rw [List.getElem?_range h1] at h
  exact ⟨(Option.some.inj h).symm, h1⟩
end WK
namespace WK
open PySem PySem.Spec PyProof.Rows L2 PM
theorem sqAt {K : PySem.W.Frag} {H : Hp} {a : Addr} {xs : List V} (h : H a = some (.lst xs)) : SqL K H a xs := .inl (.inl h)
end WK

namespace WK
open PySem PySem.Spec PyProof.Rows L2 PM
section
variable {Pg : Program} {w : World} {K : PySem.W.Frag} {Q : VK} {F : Ent} {B H : Hp} {L : Led} {M : AMl} {P : MPc} {k j : Nat} {y : V}
end
end WK
namespace L2
open PySem PySem.Spec PyProof.Rows WK
theorem DpAll.set {K : PySem.W.Frag} {B : Hp} : ∀ {vs : List V} {ds : List PyData}, DpAll K B vs ds → ∀ (j : Nat) {v : V} {d : PyData}, Dp K B v d → DpAll K B (vs.set j v) (ds.set j d)
  | _, _, .nil, _, _, _, _ => .nil
  | _, _, .cons _ t, 0, _, _, h => .cons h t
  | _, _, .cons h0 t, j + 1, _, _, h => .cons h0 (DpAll.set t j h)
end L2
namespace WK
open PySem PySem.Spec PyProof.Rows L2 PM
end WK

namespace WK
open PySem PySem.Spec PyProof.Rows L2 PM
/-! a test cut off: what is known of it behind it -/
def tCutT (t : TT) : TT := fun σ H Q => ∃ R : Bool → Hp → Prop, t σ H R ∧ ∀ b H', R b H' → Q b H'
theorem v_neNilL {Pg : Program} {w : World} {K : PySem.W.Frag} {H : Hp} {Q : VK} {a b : Addr} {xs : List V} (h1 : SqL K H a xs) (h2 : SqL K H b []) (k : Q (.bl (!decide (xs.length = 0))) H) : OpU Pg w K (compareOp .NotEq) (.ref a) (.ref b) H Q := by
  refine v_neLen h1 h2 ?_ k
  by_cases h : xs = []
  · exact .inr ⟨h, rfl⟩
  · exact .inl fun z => h (List.eq_nil_of_length_eq_zero z)
end WK

/-! a book as text -/
namespace PM
open PySem L2 WK
abbrev spc : Str := " "
abbrev nlS : Str := "\n"
def partLine (r : PRow) : Str := Txt.join spc ["part", r.name, numS r.lot, numS r.lead]
def needLine (x : Str × Int) : Str := Txt.join spc ["need", x.1, numS x.2]
def stepLine (x : Int × Int) : Str := Txt.join spc ["step", numS x.1, numS x.2]
def rowLines (r : PRow) : List Str := partLine r :: (r.needs.map needLine ++ r.steps.map stepLine)
def textOf (rs : List PRow) : Str := Txt.join nlS (rs.flatMap rowLines)
end PM
namespace PM
open PySem L2 WK
section
variable {names : List Str} {r : PRow}
theorem lines_len (R : GoodRow names r) (hn : r.needs.length ≤ 12) : (rowLines r).length ≤ 18 := by
  have := R.few
  unfold rowLines
  rw [List.length_cons, List.length_append, List.length_map, List.length_map]
  omega
end
theorem GoodBook.lines18 {rs : List PRow} (G : GoodBook rs) : ∀ r ∈ rs, (rowLines r).length ≤ 18 := by
  intro r hr
  obtain ⟨j, hj⟩ := List.getElem?_of_mem hr
  have R := G.row j r hj
  refine lines_len R ?_
  have := nodup_sub_length R.nd (l' := (rs.take j).map (·.name)) (by
    intro x hx
    obtain ⟨y, hy, rfl⟩ := List.mem_map.mp hx
    exact R.known y hy)
  rw [List.length_map, List.length_map, List.length_take] at this
  have := G.len
  omega
end PM
namespace PM
open PySem L2 WK
abbrev figs : Str := "0123456789"
end PM

/-! a book's text, read again -/
namespace PM
open PySem L2 WK
inductive Tg where
  | part (z : Str) (i j : Int)
  | need (z : Str) (i : Int)
  | step (i j : Int)
def Tg.words : Tg → List Str
  | .part z i j => ["part", z, numS i, numS j]
  | .need z i => ["need", z, numS i]
  | .step i j => ["step", numS i, numS j]
def Tg.line (t : Tg) : Str := Txt.join spc t.words
def Tg.ok : Tg → Prop
  | .part z i j => isNameM z = true ∧ (0 ≤ i ∧ i < 100) ∧ (0 ≤ j ∧ j < 100)
  | .need z i => isNameM z = true ∧ (0 ≤ i ∧ i < 100)
  | .step i j => (0 ≤ i ∧ i < 100) ∧ (0 ≤ j ∧ j < 100)
def rowTags (r : PRow) : List Tg := .part r.name r.lot r.lead :: (r.needs.map (fun x => .need x.1 x.2) ++ r.steps.map fun x => .step x.1 x.2)
def bookTags (rs : List PRow) : List Tg := rs.flatMap rowTags
abbrev RdS := Option (List PRow × PRow)
def rd1 : RdS → Tg → RdS
  | none, .part z i j => some ([], ⟨z, [], [], i, j⟩)
  | some (qs, r), .part z i j => some (qs ++ [r], ⟨z, [], [], i, j⟩)
  | some (qs, r), .need z i => some (qs, { r with needs := r.needs ++ [(z, i)] })
  | some (qs, r), .step i j => some (qs, { r with steps := r.steps ++ [(i, j)] })
  | none, _ => none
def rdRows : RdS → List PRow
  | none => []
  | some (qs, r) => qs ++ [r]
def SOk : RdS → Tg → Prop
  | _, .part _ _ _ => True
  | s, .need _ _ => ∃ qs r, s = some (qs, r) ∧ r.steps = []
  | s, .step _ _ => ∃ qs r, s = some (qs, r)
def rdV : RdS → List Tg → Prop
  | _, [] => True
  | s, t :: ts => SOk s t ∧ rdV (rd1 s t) ts
def rdSize : RdS → Nat
  | none => 0
  | some (qs, r) => qs.length + r.needs.length + r.steps.length + 1
/-! words -/
end PM

/-! a book's text by its rows -/
namespace PM
open PySem L2 WK
/-- rows that need nothing -/
structure Bare (r : PRow) : Prop where
  nm : isNameM r.name = true
  lot : 1 ≤ r.lot ∧ r.lot ≤ 99
  lead : 0 ≤ r.lead ∧ r.lead ≤ 30
  few : r.steps.length ≤ 5
  steps : ∀ x ∈ r.steps, (0 ≤ x.1 ∧ x.1 < 6) ∧ 1 ≤ x.2 ∧ x.2 ≤ 99
  none : r.needs = []
theorem GoodRow.bare {names : List Str} {r : PRow} (R : GoodRow names r) (h : r.needs = []) : Bare r := ⟨R.nm, R.lot, R.lead, R.few, R.steps, h⟩
theorem bare_led : ∀ (as bs : List PRow), (∀ r ∈ as, r.needs = []) → (∀ p ∈ ledOf bs, p.2 = []) → ∀ p ∈ ledOf (bs ++ as), p.2 = []
  | [], bs, _, h => by rw [List.append_nil]; exact h
  | a :: as, bs, ha, h => by
    have e : bs ++ a :: as = (bs ++ [a]) ++ as := by simp
    rw [e]
    refine bare_led as (bs ++ [a]) (fun r hr => ha r (.tail _ hr)) fun p hp => ?_
    rw [ledOf_snoc] at hp
    rcases List.mem_append.mp hp with hp | hp
    · exact h p hp
    · rw [List.mem_singleton] at hp
      subst hp
      show ledTo _ _ a.needs = []
      rw [ha a (.head _)]
      unfold ledTo
      refine List.filter_eq_nil_iff.mpr fun q hq => ?_
      obtain ⟨s, _, rfl⟩ := List.mem_map.mp (show q ∈ _ from hq)
      simp
theorem bare_book {as : List PRow} (h : ∀ r ∈ as, Bare r) (nd : (as.map (·.name)).Nodup) (hl : as.length ≤ 12) : GoodBook as where
  len := hl
  row := fun i r hr => by
    have b := h r (List.mem_of_getElem? hr)
    refine ⟨b.nm, ?_, b.lot, b.lead, ?_, ?_, ?_, b.few, b.steps⟩
    · intro hm
      rw [← List.take_append_drop i as, List.map_append, List.nodup_append] at nd
      obtain ⟨q, hq, e⟩ := List.mem_map.mp hm
      refine nd.2.2 q.name (List.mem_map.mpr ⟨q, hq, rfl⟩) r.name (List.mem_map.mpr ⟨r, ?_, rfl⟩) e
      exact List.mem_of_getElem? (i := 0) (by rw [List.getElem?_drop]; simpa using hr)
    · rw [b.none]; exact List.nodup_nil
    · intro x hx; rw [b.none] at hx; cases hx
    · intro x hx; rw [b.none] at hx; cases hx
  led := fun p hp => by
    have := bare_led as [] (fun r hr => (h r hr).none) (fun _ z => nomatch z) p hp
    rw [this]
    decide
theorem GoodBook.alone {rs : List PRow} (G : GoodBook rs) : (∀ r ∈ rs.filter (fun r => r.needs.isEmpty), Bare r) ∧ ((rs.filter fun r => r.needs.isEmpty).map (·.name)).Nodup ∧ (rs.filter fun r => r.needs.isEmpty).length ≤ 12 := by
  refine ⟨fun r hr => ?_, ?_, ?_⟩
  · obtain ⟨h1, h2⟩ := List.mem_filter.mp hr
    obtain ⟨i, hi⟩ := List.getElem?_of_mem h1
    exact (G.row i r hi).bare (List.isEmpty_iff.mp h2)
  · have := G.nodup rs.length
    rw [List.take_length] at this
    exact this.sublist ((List.filter_sublist ..).map _)
  · exact Nat.le_trans (List.length_filter_le ..) G.len
theorem Bare.book {r : PRow} (b : Bare r) : GoodBook [r] := bare_book (fun q hq => by rw [List.mem_singleton] at hq; exact hq ▸ b) (by simp) (by simp)
end PM

/-! shapes of rows and lines -/
namespace PM
open PySem L2 WK
end PM

/-! the law's own lines -/
namespace PM
open PySem L2 WK
end PM
namespace PM
open PySem L2 WK
abbrev rowA : PRow := ⟨"a", [], [], 99, 30⟩
theorem row_al {r : PRow} (h1 : r.needs.length ≤ 100000) (h2 : r.steps.length ≤ 100000) {n : Nat} : AlOk (n + 3) (encRow r) := by
  refine AlOk.tup (by simp) fun d hd => ?_
  simp only [List.mem_cons, List.not_mem_nil, or_false] at hd
  rcases hd with rfl | rfl | rfl | rfl | rfl
  · exact AlOk.str
  · refine AlOk.tup (by rw [List.length_map]; exact h1) fun d hd => ?_
    obtain ⟨x, hx, rfl⟩ := List.mem_map.mp hd
    refine AlOk.tup (by simp) fun d hd => ?_
    simp only [List.mem_cons, List.not_mem_nil, or_false] at hd
    rcases hd with rfl | rfl
    · exact AlOk.str
    · exact AlOk.int
  · refine AlOk.tup (by rw [List.length_map]; exact h2) fun d hd => ?_
    obtain ⟨x, hx, rfl⟩ := List.mem_map.mp hd
    refine AlOk.tup (by simp) fun d hd => ?_
    simp only [List.mem_cons, List.not_mem_nil, or_false] at hd
    rcases hd with rfl | rfl
    · exact AlOk.int
    · exact AlOk.int
  · exact AlOk.int
  · exact AlOk.int
theorem GoodBook.al {rs : List PRow} (G : GoodBook rs) {n : Nat} : AlOk (n + 4) (.list (rs.map encRow)) := by
  refine AlOk.lst (by rw [List.length_map]; have := G.len; omega) fun d hd => ?_
  obtain ⟨r, hr, rfl⟩ := List.mem_map.mp hd
  have hnl := G.lines18 r hr
  unfold rowLines at hnl
  rw [List.length_cons, List.length_append, List.length_map, List.length_map] at hnl
  exact row_al (by omega) (by omega)
end PM

/-! what the law itself counts -/
namespace PM
open PySem L2
def needsOf (rs : List PRow) (s : Str) : List (Str × Int) := match rs.filter fun r => decide (r.name = s) with | r :: _ => r.needs | [] => []
def lawStep (g : Str → List (Str × Int)) (f : List (Str × Int)) (p : Str × Int) : List (Str × Int) := addAll p.2 (addA f p.1 p.2) (g p.1)
def lawLed (rs : List PRow) : Nat → List (Str × Int) → List (Str × Int)
  | 0, _ => []
  | n + 1, needs => needs.foldl (lawStep fun s => lawLed rs n (needsOf rs s)) []
structure Fine (names : List Str) (f : List (Str × Int)) : Prop where
  nd : (f.map (·.1)).Nodup
  sub : ∀ y ∈ f, y.1 ∈ names
theorem putA_fine {names : List Str} {f : List (Str × Int)} {s : Str} {v : Int} (h : Fine names f) (hs : s ∈ names) : Fine names (putA f s v) := by
  by_cases k : s ∈ f.map (·.1)
  · refine ⟨by rw [putA_keys f s v k]; exact h.nd, fun y hy => ?_⟩
    have : y.1 ∈ (putA f s v).map (·.1) := List.mem_map.mpr ⟨y, hy, rfl⟩
    rw [putA_keys f s v k] at this
    obtain ⟨z, hz, e⟩ := List.mem_map.mp this
    rw [← e]
    exact h.sub z hz
  · rw [putA_new f s v k]
    refine ⟨?_, fun y hy => ?_⟩
    · rw [List.map_append]
      refine List.nodup_append.mpr ⟨h.nd, List.nodup_cons.mpr ⟨(by simp), List.nodup_nil⟩, ?_⟩
      intro a ha b hb hab
      rw [List.map_singleton, List.mem_singleton] at hb
      subst hb hab
      exact k ha
    · rcases List.mem_append.mp hy with hy | hy
      · exact h.sub y hy
      · rw [List.mem_singleton] at hy
        subst hy
        exact hs
theorem addA_fine {names : List Str} {f : List (Str × Int)} {s : Str} {v : Int} (h : Fine names f) (hs : s ∈ names) : Fine names (addA f s v) := putA_fine h hs
theorem addAll_fine {names : List Str} {m : Int} {more : List (Str × Int)} (hm : ∀ y ∈ more, y.1 ∈ names) {f : List (Str × Int)} (h : Fine names f) : Fine names (addAll m f more) := by
  unfold addAll
  induction more generalizing f with
  | nil => exact h
  | cons y more ih =>
    rw [List.foldl_cons]
    exact ih (fun z hz => hm z (.tail _ hz)) (addA_fine h (hm y (.head _)))
theorem Fine.nil (names : List Str) : Fine names [] := ⟨List.nodup_nil, fun _ h => nomatch h⟩
theorem Fine.len {names : List Str} {f : List (Str × Int)} (h : Fine names f) : f.length ≤ names.length := by
  have := nodup_sub_length h.nd (l' := names) (fun x hx => by obtain ⟨y, hy, rfl⟩ := List.mem_map.mp hx; exact h.sub y hy)
  rwa [List.length_map] at this
theorem lawStep_fine {names : List Str} {g : Str → List (Str × Int)} {f : List (Str × Int)} {p : Str × Int} (h : Fine names f) (hp : p.1 ∈ names) (hg : ∀ y ∈ g p.1, y.1 ∈ names) : Fine names (lawStep g f p) := addAll_fine hg (addA_fine h hp)
theorem lawFold_fine {names : List Str} {g : Str → List (Str × Int)} {needs : List (Str × Int)} (hp : ∀ p ∈ needs, p.1 ∈ names) (hg : ∀ p ∈ needs, ∀ y ∈ g p.1, y.1 ∈ names) {f : List (Str × Int)} (h : Fine names f) : Fine names (needs.foldl (lawStep g) f) := by
  induction needs generalizing f with
  | nil => exact h
  | cons p needs ih =>
    rw [List.foldl_cons]
    exact ih (fun q hq => hp q (.tail _ hq)) (fun q hq => hg q (.tail _ hq)) (lawStep_fine h (hp p (.head _)) (hg p (.head _)))
theorem filter_one {rs : List PRow} {r : PRow} (nd : (rs.map (·.name)).Nodup) (h : r ∈ rs) : rs.filter (fun x => decide (x.name = r.name)) = [r] := by
  induction rs with
  | nil => cases h
  | cons a rs ih =>
    rw [List.map_cons] at nd
    obtain ⟨n1, n2⟩ := List.nodup_cons.mp nd
    rcases List.mem_cons.mp h with rfl | h
    · rw [List.filter_cons, if_pos (decide_eq_true rfl)]
      congr 1
      refine List.filter_eq_nil_iff.mpr fun x hx => ?_
      intro z
      exact n1 (List.mem_map.mpr ⟨x, hx, of_decide_eq_true z⟩)
    · rw [List.filter_cons, if_neg, ih n2 h]
      intro z
      exact n1 (List.mem_map.mpr ⟨r, h, (of_decide_eq_true z).symm⟩)
section
variable {rs : List PRow}
theorem GoodBook.nd (G : GoodBook rs) : (rs.map (·.name)).Nodup := by
  have := G.nodup rs.length
  rwa [List.take_length] at this
theorem needsOf_row (G : GoodBook rs) {r : PRow} (h : r ∈ rs) : needsOf rs r.name = r.needs := by
  unfold needsOf
  rw [filter_one G.nd h]
theorem mem_take_names {i n : Nat} (hi : i ≤ n) {s : Str} (h : s ∈ (rs.take i).map (·.name)) : s ∈ (rs.take n).map (·.name) := by
  obtain ⟨r, hr, e⟩ := List.mem_map.mp h
  refine List.mem_map.mpr ⟨r, ?_, e⟩
  obtain ⟨j, hj⟩ := List.getElem?_of_mem hr
  have h1 : j < i := by
    have := (List.getElem?_eq_some_iff.mp hj).1
    rw [List.length_take] at this
    omega
  rw [List.getElem?_take_of_lt h1] at hj
  exact List.mem_of_getElem? (by rw [List.getElem?_take_of_lt (show j < n by omega)]; exact hj)
theorem names_take {n : Nat} {s : Str} (h : s ∈ (rs.take n).map (·.name)) : s ∈ rs.map (·.name) := by
  obtain ⟨r, hr, e⟩ := List.mem_map.mp h
  exact List.mem_map.mpr ⟨r, List.mem_of_mem_take hr, e⟩
/-- the row behind a name, and how deep it lies -/
theorem GoodBook.at (G : GoodBook rs) {n : Nat} {s : Str} (h : s ∈ (rs.take (n + 1)).map (·.name)) : ∃ r ∈ rs, r.name = s ∧ rs.filter (fun x => decide (x.name = s)) = [r] ∧ (∀ x ∈ r.needs, x.1 ∈ (rs.take n).map (·.name)) ∧ (∀ x ∈ r.needs, 1 ≤ x.2 ∧ x.2 ≤ 9) ∧ r.needs.length ≤ 12 := by
  obtain ⟨r, hr, rfl⟩ := List.mem_map.mp h
  obtain ⟨j, hj⟩ := List.getElem?_of_mem hr
  have h1 : j < n + 1 := by
    have := (List.getElem?_eq_some_iff.mp hj).1
    rw [List.length_take] at this
    omega
  rw [List.getElem?_take_of_lt h1] at hj
  have R := G.row j r hj
  have hm := List.mem_of_getElem? hj
  refine ⟨r, hm, rfl, filter_one G.nd hm, fun x hx => mem_take_names (by omega) (R.known x hx), R.many, ?_⟩
  have := nodup_sub_length R.nd (l' := (rs.take j).map (·.name)) (by
    intro x hx
    obtain ⟨y, hy, rfl⟩ := List.mem_map.mp hx
    exact R.known y hy)
  rw [List.length_map, List.length_map, List.length_take] at this
  have := G.len
  omega
theorem lawLed_fine (G : GoodBook rs) : ∀ (n : Nat) (needs : List (Str × Int)), (∀ x ∈ needs, x.1 ∈ (rs.take n).map (·.name)) → Fine (rs.map (·.name)) (lawLed rs n needs)
  | 0, _, _ => Fine.nil _
  | n + 1, needs, h => by
    refine lawFold_fine (fun p hp => names_take (h p hp)) (fun p hp => ?_) (Fine.nil _)
    obtain ⟨r, hr, e, hf, hn, _⟩ := G.at (h p hp)
    rw [← e, needsOf_row G hr]
    exact (lawLed_fine G n r.needs hn).sub
end
theorem get_kvI (f : List (Str × Int)) (s : Str) (d : Int) : (valV (kvI f) (.inr s)).getD (.int d) = .int ((getA f s).getD d) := by
  rw [valV_kvI]
  cases getA f s <;> rfl
open WK in
theorem src_keysI {d : Addr} {o : Obj} {m : List (Str × Int)} : Src (Itk d o (kvI m)) (Frz d o (kvI m)) m (fun _ x p => x = .str p.1) := by
  have h := src_keys (d := d) (o := o) (kvs := kvI m)
  have e : (kvI m).map (·.1) = m.map fun p => (Sum.inr p.1 : Key) := by unfold kvI; rw [List.map_map]; rfl
  rw [e] at h
  exact h.map
open WK in
theorem getA_nodup {α : Type} {m : List (Str × α)} {y : Str × α} (h : y ∈ m) (nd : (m.map (·.1)).Nodup) : getA m y.1 = some y.2 := by
  induction m with
  | nil => cases h
  | cons p m ih =>
    rw [List.map_cons] at nd
    obtain ⟨n1, n2⟩ := List.nodup_cons.mp nd
    unfold getA
    rw [List.find?_cons]
    rcases List.mem_cons.mp h with rfl | h
    · rw [decide_eq_true rfl]; rfl
    · rw [decide_eq_false (fun e : p.1 = y.1 => n1 (List.mem_map.mpr ⟨y, h, e.symm⟩))]
      exact ih h n2
end PM

/-! what the law counts is what the program counts -/
namespace PM
open PySem L2
def valA (f : List (Str × Int)) (s : Str) : Int := (getA f s).getD 0
theorem getA_putA (f : List (Str × Int)) (s t : Str) (v : Int) : getA (putA f s v) t = if t = s then some v else getA f t := by
  have h : (getA (putA f s v) t).map V.int = (if t = s then some v else getA f t).map V.int := by
    rw [← valV_kvI, ← putK_kvI, valV_put]
    by_cases e : t = s
    · subst e; rw [if_pos rfl, if_pos rfl]; rfl
    · rw [if_neg e, if_neg (fun z => e (Sum.inr.inj z)), valV_kvI]
  cases e1 : getA (putA f s v) t with
  | none =>
    rw [e1] at h
    cases e2 : (if t = s then some v else getA f t) with
    | none => rfl
    | some w => rw [e2] at h; cases h
  | some u =>
    rw [e1] at h
    cases e2 : (if t = s then some v else getA f t) with
    | none => rw [e2] at h; cases h
    | some w => rw [e2] at h; simp at h; rw [h]
theorem valA_addA (f : List (Str × Int)) (s t : Str) (i : Int) : valA (addA f s i) t = valA f t + if t = s then i else 0 := by
  unfold valA addA
  rw [getA_putA]
  by_cases e : t = s
  · subst e; rw [if_pos rfl, if_pos rfl]; rfl
  · rw [if_neg e, if_neg e]; omega
theorem getA_cons {α : Type} (y : Str × α) (l : List (Str × α)) (t : Str) : getA (y :: l) t = if y.1 = t then some y.2 else getA l t := by
  unfold getA
  rw [List.find?_cons]
  by_cases e : y.1 = t
  · rw [if_pos e, decide_eq_true e]; rfl
  · rw [if_neg e, decide_eq_false e]
theorem getA_none {α : Type} {l : List (Str × α)} {t : Str} (h : t ∉ l.map (·.1)) : getA l t = none := by
  cases e : getA l t with
  | none => rfl
  | some v => exact absurd (List.mem_map.mpr ⟨_, getA_mem e, rfl⟩) h
theorem valA_addAll {m : Int} {more : List (Str × Int)} (nd : (more.map (·.1)).Nodup) (f : List (Str × Int)) (t : Str) : valA (addAll m f more) t = valA f t + m * valA more t := by
  induction more generalizing f with
  | nil => show valA f t = valA f t + m * 0; omega
  | cons y more ih =>
    rw [List.map_cons] at nd
    obtain ⟨n1, n2⟩ := List.nodup_cons.mp nd
    show valA (addAll m (addA f y.1 (m * y.2)) more) t = _
    rw [ih n2, valA_addA]
    have hv : valA (y :: more) t = if y.1 = t then y.2 else valA more t := by
      unfold valA
      rw [getA_cons]
      by_cases e : y.1 = t
      · rw [if_pos e, if_pos e]; rfl
      · rw [if_neg e, if_neg e]
    rw [hv]
    by_cases e : t = y.1
    · subst e
      have h0 : valA more y.1 = 0 := by unfold valA; rw [getA_none n1]; rfl
      rw [if_pos rfl, if_pos rfl, h0]
      omega
    · rw [if_neg e, if_neg (fun z => e z.symm)]
      omega
/-- alike as sums -/
def Alk (f g : List (Str × Int)) : Prop := ∀ t, valA f t = valA g t
theorem fold_alk {g g' : Str → List (Str × Int)} {needs : List (Str × Int)} (h : ∀ p ∈ needs, ((g p.1).map (·.1)).Nodup ∧ ((g' p.1).map (·.1)).Nodup ∧ Alk (g p.1) (g' p.1)) {f f' : List (Str × Int)} (e : Alk f f') : Alk (needs.foldl (lawStep g) f) (needs.foldl (lawStep g') f') := by
  induction needs generalizing f f' with
  | nil => exact e
  | cons p needs ih =>
    obtain ⟨h1, h2, h3⟩ := h p (.head _)
    rw [List.foldl_cons, List.foldl_cons]
    refine ih (fun q hq => h q (.tail _ hq)) fun t => ?_
    unfold lawStep
    rw [valA_addAll h1, valA_addAll h2, valA_addA, valA_addA, e t, h3 t]
def Pos (f : List (Str × Int)) : Prop := ∀ y ∈ f, 0 < y.2
theorem putA_mem {f : List (Str × Int)} {s : Str} {v : Int} {y : Str × Int} (h : y ∈ putA f s v) : y = (s, v) ∨ y ∈ f := by
  unfold putA at h
  split at h
  · obtain ⟨z, hz, e⟩ := List.mem_map.mp h
    by_cases k : z.1 = s
    · rw [if_pos k] at e; exact .inl (by rw [← e, k])
    · rw [if_neg k] at e; exact .inr (e ▸ hz)
  · rcases List.mem_append.mp h with h | h
    · exact .inr h
    · exact .inl (List.mem_singleton.mp h)
theorem addA_pos {f : List (Str × Int)} {s : Str} {i : Int} (h : Pos f) (hi : 0 < i) : Pos (addA f s i) := by
  intro y hy
  rcases putA_mem hy with rfl | hy
  · show 0 < (getA f s).getD 0 + i
    cases e : getA f s with
    | none => show 0 < 0 + i; omega
    | some v => have : 0 < v := h _ (getA_mem e); show 0 < v + i; omega
  · exact h y hy
theorem addAll_pos {f more : List (Str × Int)} {m : Int} (h : Pos f) (hm : 0 < m) (hp : Pos more) : Pos (addAll m f more) := by
  unfold addAll
  induction more generalizing f with
  | nil => exact h
  | cons y more ih => exact ih (addA_pos h (Int.mul_pos hm (hp y (.head _)))) fun z hz => hp z (.tail _ hz)
theorem fold_pos {g : Str → List (Str × Int)} {needs : List (Str × Int)} (hn : Pos needs) (h : ∀ p ∈ needs, Pos (g p.1)) {f : List (Str × Int)} (hf : Pos f) : Pos (needs.foldl (lawStep g) f) := by
  induction needs generalizing f with
  | nil => exact hf
  | cons p needs ih => exact ih (fun z hz => hn z (.tail _ hz)) (fun q hq => h q (.tail _ hq)) (addAll_pos (addA_pos hf (hn p (.head _))) (hn p (.head _)) (h p (.head _)))
def Nng (f : List (Str × Int)) : Prop := ∀ y ∈ f, 0 ≤ y.2
theorem addA_nng {f : List (Str × Int)} {s : Str} {i : Int} (h : Nng f) (hi : 0 ≤ i) : Nng (addA f s i) := by
  intro y hy
  rcases putA_mem hy with rfl | hy
  · show 0 ≤ (getA f s).getD 0 + i
    cases e : getA f s with
    | none => show 0 ≤ 0 + i; omega
    | some v => have : 0 ≤ v := h _ (getA_mem e); show 0 ≤ v + i; omega
  · exact h y hy
theorem addAll_nng {f more : List (Str × Int)} {m : Int} (h : Nng f) (hm : 0 < m) (hp : Pos more) : Nng (addAll m f more) := by
  unfold addAll
  induction more generalizing f with
  | nil => exact h
  | cons y more ih => exact ih (addA_nng h (Int.le_of_lt (Int.mul_pos hm (hp y (.head _))))) fun z hz => hp z (.tail _ hz)
theorem fold_nng {g : Str → List (Str × Int)} {needs : List (Str × Int)} (hn : Pos needs) (h : ∀ p ∈ needs, Pos (g p.1)) {f : List (Str × Int)} (hf : Nng f) : Nng (needs.foldl (lawStep g) f) := by
  induction needs generalizing f with
  | nil => exact hf
  | cons p needs ih => exact ih (fun z hz => hn z (.tail _ hz)) (fun q hq => h q (.tail _ hq)) (addAll_nng (addA_nng hf (Int.le_of_lt (hn p (.head _)))) (hn p (.head _)) (h p (.head _)))
theorem filter_alk {f : List (Str × Int)} (nd : (f.map (·.1)).Nodup) (nn : Nng f) : Alk (f.filter fun p => decide (0 < p.2)) f := by
  intro t
  have nd2 : ((f.filter fun p => decide (0 < p.2)).map (·.1)).Nodup := nd.sublist (List.filter_sublist.map _)
  unfold valA
  cases e : getA f t with
  | none =>
    rw [getA_none]
    intro z
    obtain ⟨y, hy, rfl⟩ := List.mem_map.mp z
    have := (getA_isSome f y.1).mpr (List.mem_map.mpr ⟨y, (List.mem_filter.mp hy).1, rfl⟩)
    rw [e] at this
    cases this
  | some v =>
    have hm := getA_mem e
    by_cases hv : 0 < v
    · rw [getA_nodup (y := (t, v)) (List.mem_filter.mpr ⟨hm, decide_eq_true hv⟩) nd2]
    · have : v = 0 := by have : 0 ≤ v := nn _ hm; omega
      subst this
      cases e2 : getA (f.filter fun p => decide (0 < p.2)) t with
      | none => rfl
      | some u =>
        obtain ⟨h1, h2⟩ := List.mem_filter.mp (getA_mem e2)
        have := getA_nodup h1 nd
        rw [show (t, u).1 = t from rfl, e] at this
        exact (Option.some.inj this).symm
/-- alike, each key once, no zero: the same rows -/
theorem alk_mem {f g : List (Str × Int)} (nf : (f.map (·.1)).Nodup) (pf : Pos f) (e : Alk f g) {y : Str × Int} (h : y ∈ f) : getA g y.1 = some y.2 := by
  have h1 := e y.1
  unfold valA at h1
  rw [getA_nodup h nf] at h1
  have hp := pf y h
  cases e2 : getA g y.1 with
  | none => rw [e2] at h1; simp at h1; omega
  | some v => rw [e2] at h1; simp at h1; rw [h1]
theorem nodup_of_keys {f : List (Str × Int)} (h : (f.map (·.1)).Nodup) : f.Nodup := by
  induction f with
  | nil => exact List.nodup_nil
  | cons y f ih =>
    obtain ⟨n1, n2⟩ := List.nodup_cons.mp h
    exact List.nodup_cons.mpr ⟨fun z => n1 (List.mem_map.mpr ⟨y, z, rfl⟩), ih n2⟩
theorem perm_sum {l l' : List Int} (h : l.Perm l') : l.sum = l'.sum := by
  induction h with
  | nil => rfl
  | cons x _ ih => simp [ih]
  | swap x y l => simp; omega
  | trans _ _ a b => exact a.trans b
theorem alk_sum {f g : List (Str × Int)} (nf : (f.map (·.1)).Nodup) (ng : (g.map (·.1)).Nodup) (pf : Pos f) (pg : Pos g) (e : Alk f g) : (f.map (·.2)).sum = (g.map (·.2)).sum := by
  have p : f.Perm g := (List.perm_ext_iff_of_nodup (nodup_of_keys nf) (nodup_of_keys ng)).mpr fun y => ⟨fun h => getA_mem (alk_mem nf pf e h), fun h => getA_mem (alk_mem ng pg (fun t => (e t).symm) h)⟩
  exact perm_sum (p.map _)
/-! what stands behind each name -/
theorem getA_append {α : Type} (l l' : List (Str × α)) (s : Str) : getA (l ++ l') s = match getA l s with | some v => some v | none => getA l' s := by
  induction l with
  | nil => rfl
  | cons y l ih =>
    rw [List.cons_append, getA_cons, getA_cons, ih]
    by_cases e : y.1 = s
    · rw [if_pos e, if_pos e]
    · rw [if_neg e, if_neg e]
theorem led_more : ∀ (xs : List PRow) (ls : List (Str × List (Str × Int))), ∃ more, xs.foldl ledStep ls = ls ++ more
  | [], ls => ⟨[], by rw [List.append_nil]; rfl⟩
  | r :: xs, ls => by
    obtain ⟨more, h⟩ := led_more xs (ledStep ls r)
    refine ⟨(r.name, ledTo (ls.map (·.1) ++ [r.name]) ls r.needs) :: more, ?_⟩
    rw [List.foldl_cons, h]
    unfold ledStep
    rw [List.append_assoc]
    rfl
section
variable {rs : List PRow}
theorem ledOf_cut (j : Nat) {s : Str} (h : s ∈ (rs.take j).map (·.name)) : getA (ledOf rs) s = getA (ledOf (rs.take j)) s := by
  obtain ⟨more, e⟩ := led_more (rs.drop j) (ledOf (rs.take j))
  have e2 : ledOf rs = ledOf (rs.take j) ++ more := by
    rw [← e]
    unfold ledOf
    rw [← List.foldl_append, List.take_append_drop]
  obtain ⟨v, hv⟩ := getA_of_mem (l := ledOf (rs.take j)) (s := s) (by rw [ledOf_names]; exact h)
  rw [e2, getA_append, hv]
def ledN (rs : List PRow) (s : Str) : List (Str × Int) := (getA (ledOf rs) s).getD []
theorem fold_congr {g g' : Str → List (Str × Int)} {needs f : List (Str × Int)} (h : ∀ p ∈ needs, g p.1 = g' p.1) : needs.foldl (lawStep g) f = needs.foldl (lawStep g') f := by
  induction needs generalizing f with
  | nil => rfl
  | cons p needs ih =>
    have e : lawStep g f p = lawStep g' f p := by unfold lawStep; rw [h p (.head _)]
    rw [List.foldl_cons, List.foldl_cons, e]
    exact ih fun q hq => h q (.tail _ hq)
theorem ledRaw_eq (names : List Str) (ls : List (Str × List (Str × Int))) (needs : List (Str × Int)) : ledRaw names ls needs = needs.foldl (lawStep fun s => (getA ls s).getD []) (names.map fun s => (s, 0)) := rfl
/-- the row at j -/
theorem GoodBook.ledAt (G : GoodBook rs) {j : Nat} {r : PRow} (h : rs[j]? = some r) : getA (ledOf rs) r.name = some (ledTo ((rs.take (j + 1)).map (·.name)) (ledOf rs) r.needs) := by
  have R := G.row j r h
  have hm : r.name ∈ (rs.take (j + 1)).map (·.name) := by rw [take_succ_map h]; exact List.mem_append_right _ (.head _)
  rw [ledOf_cut (j + 1) hm, ledOf_take h, ledStep, getA_append, getA_none (by rw [ledOf_names]; exact R.new), getA_cons, if_pos rfl]
  have e : ledTo ((ledOf (rs.take j)).map (·.1) ++ [r.name]) (ledOf (rs.take j)) r.needs = ledTo ((rs.take (j + 1)).map (·.name)) (ledOf rs) r.needs := by
    unfold ledTo
    rw [ledRaw_eq, ledRaw_eq, ledOf_names, take_succ_map h]
    congr 1
    exact fold_congr fun p hp => by rw [ledOf_cut j (R.known p hp)]
  rw [e]
theorem led_pos : ∀ p ∈ ledOf rs, Pos p.2 := by
  suffices h : ∀ (xs : List PRow) (ls : List (Str × List (Str × Int))), (∀ p ∈ ls, Pos p.2) → ∀ p ∈ xs.foldl ledStep ls, Pos p.2 from h rs [] (fun _ h => nomatch h)
  intro xs
  induction xs with
  | nil => intro ls h; exact h
  | cons r xs ih =>
    intro ls h
    refine ih _ fun p hp => ?_
    rcases List.mem_append.mp hp with hp | hp
    · exact h p hp
    · rw [List.mem_singleton] at hp
      subst hp
      exact fun y hy => of_decide_eq_true (List.mem_filter.mp hy).2
/-- what a row's needs come to, counted from nothing -/
def total (rs : List PRow) (needs : List (Str × Int)) : List (Str × Int) := needs.foldl (lawStep (ledN rs)) []
theorem led_at (G : GoodBook rs) {s : Str} (h : s ∈ rs.map (·.name)) : getA (ledOf rs) s = some (ledN rs s) ∧ ((ledN rs s).map (·.1)).Nodup ∧ Pos (ledN rs s) ∧ ∀ y ∈ ledN rs s, y.1 ∈ rs.map (·.name) := by
  obtain ⟨m, hm⟩ := getA_of_mem (l := ledOf rs) (s := s) (by rw [ledOf_names]; exact h)
  have e : ledN rs s = m := by unfold ledN; rw [hm]; rfl
  rw [e]
  refine ⟨hm, G.nd.sublist (G.led_all _ (getA_mem hm)), led_pos _ (getA_mem hm), fun y hy => ?_⟩
  exact (G.led_all _ (getA_mem hm)).subset (List.mem_map.mpr ⟨y, hy, rfl⟩)
theorem GoodBook.pos (G : GoodBook rs) {j : Nat} {r : PRow} (h : rs[j]? = some r) : Pos r.needs := fun y hy => by have := ((G.row j r h).many y hy).1; omega
theorem GoodBook.known_all (G : GoodBook rs) {j : Nat} {r : PRow} (h : rs[j]? = some r) : ∀ x ∈ r.needs, x.1 ∈ rs.map (·.name) := fun x hx => names_take ((G.row j r h).known x hx)
theorem GoodBook.led_total (G : GoodBook rs) {j : Nat} {r : PRow} (h : rs[j]? = some r) : Alk (ledN rs r.name) (total rs r.needs) := by
  have e : ledN rs r.name = ledTo ((rs.take (j + 1)).map (·.name)) (ledOf rs) r.needs := by unfold ledN; rw [G.ledAt h]; rfl
  have known := G.known_all h
  rw [e]
  have keys := ledRaw_keys (names := (rs.take (j + 1)).map (·.name)) (ls := ledOf rs) (needs := r.needs) fun x hx => ⟨mem_take_names (Nat.le_succ j) ((G.row j r h).known x hx), fun m hm z hz => by
    rw [ledOf_cut j ((G.row j r h).known x hx)] at hm
    exact mem_take_names (Nat.le_succ j) (G.known j _ (getA_mem hm) z hz)⟩
  have nn : Nng (ledRaw ((rs.take (j + 1)).map (·.name)) (ledOf rs) r.needs) := by
    rw [ledRaw_eq]
    refine fold_nng (G.pos h) (fun p hp => (led_at G (known p hp)).2.2.1) fun y hy => ?_
    obtain ⟨s, _, rfl⟩ := List.mem_map.mp hy
    exact Int.le_refl _
  intro t
  unfold ledTo
  rw [filter_alk (by rw [keys]; exact G.nodup _) nn t, ledRaw_eq]
  refine fold_alk (fun p hp => ?_) (fun t => ?_) t
  · obtain ⟨h1, h2, _⟩ := led_at G (known p hp)
    rw [show (getA (ledOf rs) p.1).getD [] = ledN rs p.1 from rfl]
    exact ⟨h2, h2, fun _ => rfl⟩
  · unfold valA
    cases e : getA (((rs.take (j + 1)).map (·.name)).map fun s => ((s, 0) : Str × Int)) t with
    | none => rfl
    | some v =>
      obtain ⟨s, _, hs⟩ := List.mem_map.mp (getA_mem e)
      cases hs
      rfl
/-- the law's own count of some needs -/
theorem lawLed_total (G : GoodBook rs) : ∀ (n : Nat) (needs : List (Str × Int)), (∀ x ∈ needs, x.1 ∈ (rs.take n).map (·.name)) → Alk (lawLed rs n needs) (total rs needs)
  | 0, needs, h => by
    cases needs with
    | nil => exact fun _ => rfl
    | cons p needs => have := h p (.head _); cases this
  | n + 1, needs, h => by
    refine fold_alk (fun p hp => ?_) fun _ => rfl
    obtain ⟨r, hr, e, _, hn, _⟩ := G.at (h p hp)
    obtain ⟨j, hj⟩ := List.getElem?_of_mem hr
    rw [← e, needsOf_row G hr]
    refine ⟨(lawLed_fine G n r.needs hn).nd, ?_, fun t => ?_⟩
    · rw [e]; exact (led_at G (names_take (h p hp))).2.1
    · rw [lawLed_total G n r.needs hn t, G.led_total hj t]
theorem lawLed_pos (G : GoodBook rs) : ∀ (n : Nat) (needs : List (Str × Int)), (∀ x ∈ needs, x.1 ∈ (rs.take n).map (·.name)) → Pos needs → Pos (lawLed rs n needs)
  | 0, _, _, _ => fun _ h => nomatch h
  | n + 1, needs, h, hp => by
    refine fold_pos hp (fun p hq => ?_) fun _ h => nomatch h
    obtain ⟨r, hr, e, _, hn, hb, _⟩ := G.at (h p hq)
    rw [← e, needsOf_row G hr]
    exact lawLed_pos G n r.needs hn fun y hy => by have := (hb y hy).1; omega
end
end PM

/-! a book grows -/
namespace PM
open PySem L2
section
variable {rs : List PRow}
theorem ledTo_total (G : GoodBook rs) {nm : Str} (hnm : nm ∉ rs.map (·.name)) {needs : List (Str × Int)} (hn : ∀ x ∈ needs, x.1 ∈ rs.map (·.name)) (hp : Pos needs) :
    ((ledTo ((ledOf rs).map (·.1) ++ [nm]) (ledOf rs) needs).map (·.1)).Nodup ∧ Pos (ledTo ((ledOf rs).map (·.1) ++ [nm]) (ledOf rs) needs) ∧ Alk (ledTo ((ledOf rs).map (·.1) ++ [nm]) (ledOf rs) needs) (total rs needs) := by
  rw [ledOf_names]
  have hk : ∀ x ∈ needs, x.1 ∈ rs.map (·.name) ++ [nm] ∧ ∀ m, getA (ledOf rs) x.1 = some m → ∀ y ∈ m, y.1 ∈ rs.map (·.name) ++ [nm] := fun x hx => ⟨List.mem_append_left _ (hn x hx), fun m hm z hz => List.mem_append_left _ ((G.led_all _ (getA_mem hm)).subset (List.mem_map.mpr ⟨z, hz, rfl⟩))⟩
  have keys := ledRaw_keys hk
  have nd : (rs.map (·.name) ++ [nm]).Nodup := by
    refine List.nodup_append.mpr ⟨G.nd, List.nodup_cons.mpr ⟨(by simp), List.nodup_nil⟩, ?_⟩
    intro a ha b hb hab
    rw [List.mem_singleton] at hb
    subst hb hab
    exact hnm ha
  have nn : Nng (ledRaw (rs.map (·.name) ++ [nm]) (ledOf rs) needs) := by
    rw [ledRaw_eq]
    refine fold_nng hp (fun p hp => (led_at G (hn p hp)).2.2.1) fun y hy => ?_
    obtain ⟨s, _, rfl⟩ := List.mem_map.mp hy
    exact Int.le_refl _
  refine ⟨nd.sublist (ledTo_sub hk), fun y hy => of_decide_eq_true (List.mem_filter.mp hy).2, fun t => ?_⟩
  unfold ledTo
  rw [filter_alk (by rw [keys]; exact nd) nn t, ledRaw_eq]
  refine fold_alk (fun p hp => ?_) (fun t => ?_) t
  · obtain ⟨h1, h2, _⟩ := led_at G (hn p hp)
    rw [show (getA (ledOf rs) p.1).getD [] = ledN rs p.1 from rfl]
    exact ⟨h2, h2, fun _ => rfl⟩
  · unfold valA
    cases e : getA ((rs.map (·.name) ++ [nm]).map fun s => ((s, 0) : Str × Int)) t with
    | none => rfl
    | some v =>
      obtain ⟨s, _, hs⟩ := List.mem_map.mp (getA_mem e)
      cases hs
      rfl
theorem GoodBook.snoc (G : GoodBook rs) (h12 : rs.length < 12) {r : PRow} (R : GoodRow (rs.map (·.name)) r) {n : Nat} (hn : rs.length ≤ n) (hs : ((lawLed rs n r.needs).map (·.2)).sum ≤ 200) : GoodBook (rs ++ [r]) := by
  have hp : Pos r.needs := fun y hy => by have := (R.many y hy).1; omega
  have hk : ∀ x ∈ r.needs, x.1 ∈ (rs.take n).map (·.name) := fun x hx => by rw [List.take_of_length_le hn]; exact R.known x hx
  obtain ⟨q1, q2, q3⟩ := ledTo_total G R.new R.known hp
  have es : ((ledTo ((ledOf rs).map (·.1) ++ [r.name]) (ledOf rs) r.needs).map (·.2)).sum = ((lawLed rs n r.needs).map (·.2)).sum :=
    alk_sum q1 (lawLed_fine G n r.needs hk).nd q2 (lawLed_pos G n r.needs hk hp) fun t => by rw [q3 t, lawLed_total G n r.needs hk t]
  refine ⟨by rw [List.length_append, List.length_singleton]; omega, fun i x hi => ?_, fun p hp => ?_⟩
  · by_cases h : i < rs.length
    · rw [List.getElem?_append_left h] at hi
      rw [List.take_append_of_le_length (by omega)]
      exact G.row i x hi
    · have : i = rs.length := by
        have := (List.getElem?_eq_some_iff.mp hi).1
        rw [List.length_append, List.length_singleton] at this
        omega
      subst this
      rw [List.getElem?_append_right (Nat.le_refl _), Nat.sub_self] at hi
      cases hi
      rw [List.take_left]
      exact R
  · rw [ledOf_snoc] at hp
    rcases List.mem_append.mp hp with hp | hp
    · exact G.led p hp
    · rw [List.mem_singleton] at hp
      subst hp
      rw [es]
      exact hs
theorem GoodBook.nil : GoodBook [] := ⟨by decide, fun i r h => by simp at h, fun p h => nomatch h⟩
/-- a book cut -/
theorem GoodBook.cut (G : GoodBook rs) (n : Nat) : GoodBook (rs.take n) := by
  refine ⟨by have := G.len; rw [List.length_take]; omega, fun i r hi => ?_, fun p hp => G.led p (ledOf_sub n p hp)⟩
  have hin : i < n := by
    have := (List.getElem?_eq_some_iff.mp hi).1
    rw [List.length_take] at this
    omega
  rw [List.getElem?_take_of_lt hin] at hi
  rw [List.take_take, Nat.min_eq_left (Nat.le_of_lt hin)]
  exact G.row i r hi
end
/-- the law's names -/
abbrev signs12 : Str := "abcdefghijkl"
def nameAt (k : Nat) : Str := ("p" : Str) ++ ⟨#[signs12.cps.toList.getD k 0]⟩
theorem nameAt_ok : ∀ k : Fin 12, isNameM (nameAt k) = true := by decide +kernel
theorem nameAt_ne : ∀ i j : Fin 12, nameAt i = nameAt j → i = j := by decide +kernel
/-- the books the law makes -/
structure MyBook (rs : List PRow) : Prop where
  good : GoodBook rs
  names : ∀ i r, rs[i]? = some r → r.name = nameAt i
theorem MyBook.new {rs : List PRow} (M : MyBook rs) (h : rs.length < 12) : nameAt rs.length ∉ rs.map (·.name) := by
  intro z
  obtain ⟨r, hr, e⟩ := List.mem_map.mp z
  obtain ⟨i, hi⟩ := List.getElem?_of_mem hr
  have hl := (List.getElem?_eq_some_iff.mp hi).1
  rw [M.names i r hi] at e
  have := nameAt_ne ⟨i, by omega⟩ ⟨rs.length, h⟩ e
  have := Fin.mk.inj this
  omega
theorem MyBook.snoc {rs : List PRow} (M : MyBook rs) (h12 : rs.length < 12) {r : PRow} (hr : r.name = nameAt rs.length) (lot : 1 ≤ r.lot ∧ r.lot ≤ 99) (lead : 0 ≤ r.lead ∧ r.lead ≤ 30) (nd : (r.needs.map (·.1)).Nodup) (known : ∀ x ∈ r.needs, x.1 ∈ rs.map (·.name))
    (many : ∀ x ∈ r.needs, 1 ≤ x.2 ∧ x.2 ≤ 9) (few : r.steps.length ≤ 5) (steps : ∀ x ∈ r.steps, (0 ≤ x.1 ∧ x.1 < 6) ∧ 1 ≤ x.2 ∧ x.2 ≤ 99) {n : Nat} (hn : rs.length ≤ n) (hs : ((lawLed rs n r.needs).map (·.2)).sum ≤ 200) : MyBook (rs ++ [r]) := by
  refine ⟨M.good.snoc h12 ⟨by rw [hr]; exact nameAt_ok ⟨rs.length, h12⟩, by rw [hr]; exact M.new h12, lot, lead, nd, known, many, few, steps⟩ hn hs, fun i x hi => ?_⟩
  by_cases h : i < rs.length
  · rw [List.getElem?_append_left h] at hi
    exact M.names i x hi
  · have : i = rs.length := by
      have := (List.getElem?_eq_some_iff.mp hi).1
      rw [List.length_append, List.length_singleton] at this
      omega
    subst this
    rw [List.getElem?_append_right (Nat.le_refl _), Nat.sub_self] at hi
    cases hi
    exact hr
structure NsOk (rs : List PRow) (ns : List (Str × Int)) : Prop where
  nd : (ns.map (·.1)).Nodup
  known : ∀ x ∈ ns, x.1 ∈ rs.map (·.name)
  many : ∀ x ∈ ns, 1 ≤ x.2 ∧ x.2 ≤ 9
theorem NsOk.nil (rs : List PRow) : NsOk rs [] := ⟨List.nodup_nil, (fun _ h => nomatch h), (fun _ h => nomatch h)⟩
theorem NsOk.rev {rs : List PRow} {ns : List (Str × Int)} (h : NsOk rs ns) : NsOk rs ns.reverse := ⟨by rw [List.map_reverse]; exact (List.reverse_perm _).nodup_iff.mpr h.nd, fun x hx => h.known x (List.mem_reverse.mp hx), fun x hx => h.many x (List.mem_reverse.mp hx)⟩
theorem NsOk.len {rs : List PRow} {ns : List (Str × Int)} (h : NsOk rs ns) : ns.length ≤ rs.length := by
  have := nodup_sub_length h.nd (l' := rs.map (·.name)) fun x hx => by
    obtain ⟨y, hy, rfl⟩ := List.mem_map.mp hx
    exact h.known y hy
  simpa using this
def StOk (st : List (Int × Int)) : Prop := st.length ≤ 5 ∧ ∀ x ∈ st, (0 ≤ x.1 ∧ x.1 < 6) ∧ 1 ≤ x.2 ∧ x.2 ≤ 99
end PM

/-! what the law asks -/
namespace PM
open PySem L2
section
variable {rs : List PRow}
end
end PM

namespace WK
open PySem PySem.Spec PyProof.Rows L2 PM
abbrev Led.ads (N : Led) : List Addr := N.map (·.1)
section
variable {F : Ent} {B H B' H' : Hp} {L L' : Led}
/-- the cells of a floor, that are looked at only -/
structure FH (CF CL CI : Addr) (B H : Hp) (A : AFl) : Prop where
  nd : ((FL CF CL CI A).map (·.1)).Nodup
  own : ∀ p ∈ FL CF CL CI A, H p.1 = some p.2 ∧ B p.1 = none
variable {CF CL CI : Addr} {A : AFl} {P : APc} {x : ALot} {k j : Nat} {o : HO} {a : Addr}
end
/-! d.items() as a value; sorted of it; sorted of a dict of any size -/
def itemsV (p d : Addr) : HO := .ext fun h => h.IsItemsView p d
section
variable {X : Cx}
def rItemsK : V → List V → Hp → VK → Prop := fun x xs H Q => ∃ (a : Addr) (kvs : List (Key × V)), x = .ref a ∧ xs = [] ∧ Rd H a (.dK kvs) ∧ ∀ p, H p = none → Q (.ref p) (upd H p (itemsV p a))
/-- sorted(d) of ints, any number of them -/
def rSortDB : List V → Hp → VK → Prop := fun xs H Q => ∃ (a : Addr) (kvs : List (Key × V)) (ks : List Int), xs = [.ref a] ∧ Rd H a (.dK kvs) ∧ kvs.map (·.1) = ks.map Sum.inl ∧ ks.length ≤ 1000 ∧
    ∀ (ys : List Int) (p : Addr), ys.Perm ks → ys.Pairwise (· ≤ ·) → H p = none → Q (.ref p) (upd H p (.lst (ys.map V.int)))
/-- sorted(d.items()), keys and values ints -/
def rSortItK : List V → Hp → VK → Prop := fun vs H Q => ∃ (p a : Addr) (m : List (Int × Int)), vs = [.ref p] ∧ H p = some (itemsV p a) ∧ Rd H a (.dK (m.map fun e => ((.inl e.1 : Key), V.int e.2))) ∧ m.length ≤ 1000 ∧ (m.map (·.1)).Nodup ∧
  ∀ (H' : Hp) (l : Addr) (ps : List (Addr × Int × Int)), Ex H H' → (ps.map (·.2)).Perm m → (ps.map (·.2)).Pairwise (fun a b => a.1 < b.1) → H l = none → H' l = some (.lst (ps.map fun z => V.ref z.1)) →
    (∀ z ∈ ps, H z.1 = none ∧ z.1 ≠ l ∧ H' z.1 = some (.tup [.int z.2.1, .int z.2.2])) → Q (.ref l) H'
def adrV : Value → Addr
  | .ref b => b
  | _ => 0
def kfOf (zs : List (Addr × Int × Int)) : Value → Int × Int
  | .ref b => ((zs.find? fun z => decide (z.1 = b)).map (·.2)).getD (0, 0)
  | _ => (0, 0)
end
section
variable {P : Program} {w : World} {K : PySem.W.Frag} {H B : Hp} {Q : VK} {F : Ent} {L : Led} {a p : Addr} {kvs : List (Key × V)}
end
end WK

/-! set(a list of ints), sorted(a set of ints), of any size -/
namespace WK
open PySem PySem.Spec PyProof.Rows L2
def seenI (ks : Nat → Int) (i : Nat) (k : Int) : Bool := (List.range i).any fun j => decide (ks j = k)
def unlikeI (ks : Nat → Int) : Nat → Nat
  | 0 => 0
  | i + 1 => if seenI ks i (ks i) = true then unlikeI ks i else unlikeI ks i + 1
section
variable {prog : Program} {w : World} {A : Around} {R : Result → Shared → Prop} {I : Addr} {fp wr : List Addr} {G : Array GenState → Array GenState → Prop} {n : Nat} {P : Nat → Value → Prop} {St : Nat → Shared → Prop}
end
section
variable {prog : Program} {w : World} {A : Around} {E : Value → Shared → Prop} {s : Shared}
end
section
variable {X : Cx}
def rSortSetB (w : World) : List V → Hp → VK → Prop := fun vs H Q => ∃ (a : Addr) (S : Int → Bool) (n : Nat), vs = [V.ref a] ∧ H a = some (SetO w a S n) ∧ n ≤ 1000 ∧
  ∀ (ns : List Int) (p : Addr), ns.Pairwise (· < ·) → (∀ k : Int, k ∈ ns ↔ S k = true) → H p = none → Q (.ref p) (upd H p (.lst (ns.map V.int)))
end
section
variable {P : Program} {w : World} {K : PySem.W.Frag} {H B : Hp} {Q : VK} {F : Ent} {L : Led} {a : Addr}
end
end WK

namespace WK
open PySem PySem.Spec PyProof.Rows L2 PySem.W PySem.Calls
/-! a, *r = a tuple -/
section
variable {prog : Program} {w : World} {A : Around} {E : Value → Shared → Prop}
end
section
variable {X : Cx} {pos : Pos}
def gStarT (K : PySem.W.Frag) (n i : Nat) (t : TGs) : TG := fun v σ H Q => ∃ a xs, v = .ref a ∧ SqT K H a xs ∧ n ≤ xs.length + 1 ∧ xs.length ≤ 16384 ∧
  ∀ p, H p = none → t (xs.take i ++ [.ref p] ++ (xs.drop i).drop (xs.length + 1 - n)) σ (upd H p (.lst ((xs.drop i).take (xs.length + 1 - n)))) Q
end
end WK

/-! dict([(name, ..) for ..]) -/
namespace WK
open PySem PySem.Spec PyProof.Rows L2 PM
theorem pairs_col {K : PySem.W.Frag} {B H : Hp} {enc : PRow → PyData} {xs : List V} {rs : List PRow} (h : DpAll K B xs (rs.map fun r => .tuple [.str r.name, enc r])) (e : Ex B H) : ∃ (ps : List Addr) (kvs : List (Key × V)), xs = ps.map V.ref ∧ Paired (fun p (kv : Key × V) => SqT K H p [kV kv.1, kv.2]) ps kvs ∧ ColKV K B enc kvs rs := by
  induction rs generalizing xs with
  | nil => exact ⟨[], [], h.nil_inv, .nil, .nil⟩
  | cons p m ih =>
    obtain ⟨v, r, rfl, hv, hr⟩ := DpAll.cons_inv h
    obtain ⟨ps, kvs, rfl, hp, hc⟩ := ih hr
    obtain ⟨b, ys, rfl, hq, hy⟩ := Dp.tup_inv hv
    obtain ⟨v1, _, rfl, h1, hy⟩ := hy.cons_inv
    obtain ⟨v2, _, rfl, h2, hy⟩ := hy.cons_inv
    obtain rfl := hy.nil_inv
    obtain rfl := h1.str_inv
    exact ⟨b :: ps, (.inr p.name, v2) :: kvs, rfl, .cons (e.sqT hq) hp, .cons h2 hc⟩
/-- dict([(name, ..) for ..]) -/
theorem v_dictCol {P : Program} {w : World} {K : PySem.W.Frag} {F : Ent} {B H : Hp} {L : Led} {Q : VK} {D : Addr} {acc : List V} {enc : PRow → PyData} {rs : List PRow} (S : Ok F B ((D, .lst acc) :: L) H) (h : DpAll K B acc (rs.map fun r => .tuple [.str r.name, enc r])) (nd : (rs.map (·.name)).Nodup)
    (k : ∀ (a : Addr) (kvs : List (Key × V)) (B' H' : Hp), Ex B B' → B' a = some (.dK kvs) → ColKV K B' enc kvs rs → Ok F B' L H' → Q (.ref a) H') : CallU P w K (.type "dict") [.ref D] H Q := by
  obtain ⟨ps, kvs, rfl, hp, hc⟩ := pairs_col (H := H) h S.ex
  refine v_dictP S (S.sqMem (.head _)) hp (by rw [hc.keys]; exact inr_nodup nd) fun a H' S' => ?_
  have e := S'.exF
  have S2 := S'.freeze
  exact k a kvs _ _ e upd_same (hc.up e) S2.drop
end WK

/-! ledgers put in another order, by numbers -/
namespace WK
open PySem PySem.Spec PyProof.Rows L2
theorem getD_range {α : Type} (d : α) : ∀ (ls : List α), (List.range ls.length).map (fun i => ls.getD i d) = ls := fun ls => by
  refine List.ext_getElem (by rw [List.length_map, List.length_range]) fun i h1 h2 => ?_
  rw [List.getElem_map, List.getElem_range, List.getD_eq_getElem?_getD, List.getElem?_eq_getElem h2]
  rfl
theorem permI {α : Type} (ls : List (List α)) (is : List Nat) {l1 l2 : List α} (h1 : l1 = ls.flatten := by kpr_short) (h2 : l2 = (is.map fun i => ls.getD i []).flatten := by kpr_short) (hn : ls.length = is.length := by rfl) (hp : (List.range is.length).isPerm is = true := by decide) : l1.Perm l2 := by
  subst h1 h2
  rw [← hn] at hp
  have h := (List.isPerm_iff.mp hp).map (fun i => ls.getD i [])
  rw [getD_range] at h
  exact h.flatten
/-- the ledger's parts, named from the left, put in another order -/
theorem Ok.permI {F : Ent} {B H : Hp} {L L' : Led} (S : Ok F B L H) (ls : List Led) (is : List Nat) (h1 : L = ls.flatten := by kpr_short) (h2 : L' = (is.map fun i => ls.getD i []).flatten := by kpr_short) (hn : ls.length = is.length := by rfl) (hp : (List.range is.length).isPerm is = true := by decide) : Ok F B L' H := S.perm (WK.permI ls is h1 h2 hn hp)
end WK

/-! min of a list of data; one out of a list of data -/
namespace WK
open PySem PySem.Spec PyProof.Rows L2
def rMinD (K : PySem.W.Frag) : List V → Hp → VK → Prop := fun vs H Q => ∃ (l : Addr) (xs : List V) (d : PyData) (ds : List PyData), vs = [.ref l] ∧ SqL K H l xs ∧ DpAll K H xs (d :: ds) ∧ PySem.W.AlikeAll (d :: ds) ∧ PyData.depthAll (d :: ds) ≤ 60 ∧ ∀ (i : Nat) (v : V), xs[i]? = some v → (d :: ds)[i]? = some (PySem.W.minD d ds) → Q v H
theorem call_minD {X : Cx} (hc : X.calm = true) (hu : X.A.units + 64 < cLine) : CallR X (.builtin "min") (rMinD X.K) := by
  intro pins s σ H vs us Q I r hw
  obtain ⟨l, xs, d, ds, rfl, hl, hds, hal, hdp, q⟩ := hw
  obtain ⟨u, rfl, ru⟩ := r.one
  obtain rfl : u = Value.ref l := ru
  obtain ⟨its, rs, pl, _⟩ := I.list hl
  obtain ⟨as, r1⟩ := Dp.readsAll I (d :: ds) xs its hds rs
  refine PySem.W.min_list_data (vs := its.toArray) (I.ok.hd hc) pl.isList (by simpa using r1) hal (by omega) fun i v h' tk bs hv hr kp => ?_
  have hv' : its[i]? = some v := by simpa using hv
  have hi : i < xs.length := by
    have h1 := (List.getElem?_eq_some_iff.mp hv').1
    have h2 := Paired.length rs
    omega
  obtain ⟨v2, hv2, rv⟩ := rs.get (i := i) (x := xs[i]) (List.getElem?_eq_getElem hi)
  rw [hv'] at hv2
  cases hv2
  have J : Inv X pins σ H { s with heap := h', toks := tk } := I.kept (t' := tk) kp
  obtain ⟨e, he, hde⟩ := hds.get (i := i) (List.getElem?_eq_getElem hi)
  obtain ⟨bs2, hr2⟩ := Dp.reads J e xs[i] v hde rv
  obtain ⟨rfl, _⟩ := Reads.unique hr2 _ _ hr
  exact ⟨_, H, J, rv, q i _ (List.getElem?_eq_getElem hi) he⟩
theorem vals_erase : ∀ {xs : List V} {us : List Value}, Vals xs us → ∀ j, Vals (xs.eraseIdx j) (us.eraseIdx j)
  | _, _, .nil, _ => .nil
  | _, _, .cons _ t, 0 => t
  | _, _, .cons h t, j + 1 => .cons h (vals_erase t j)
def rRemD (K : PySem.W.Frag) : V → List V → Hp → VK → Prop := fun x vs H Q => ∃ (l : Addr) (xs : List V) (ds : List PyData) (y : V) (d : PyData) (j : Nat), x = .ref l ∧ vs = [y] ∧ H l = some (.lst xs) ∧ DpAll K H xs ds ∧ Dp K H y d ∧ PyData.plainAll ds = true ∧ d.plain = true ∧ d.depth ≤ 60 ∧ PySem.SeqAt.dataPlace ds d = some j ∧ Q .non (upd H l (.lst (xs.eraseIdx j)))
theorem mt_removeD {X : Cx} (hu : X.A.units + 64 < cLine) : MtR X "list.remove" (rRemD X.K) := by
  intro pins s σ H x vs v us Q I rx rv hw
  obtain ⟨l, xs, ds, y, d, j, rfl, rfl, hl, hds, hy, p1, p2, p3, hj, q⟩ := hw
  cases rx
  obtain ⟨u, rfl, ru⟩ := rv.one
  obtain ⟨hz, its, n, rs, hg⟩ := I.hok l _ hl
  have pl := (I.list (.inl (.inl hl)))
  obtain ⟨its2, rs2, pl2, _⟩ := pl
  obtain ⟨as, r1⟩ := Dp.readsAll I ds _ its hds rs
  obtain ⟨bs, r2⟩ := Dp.reads I d y u hy ru
  have isl : s.heap.IsList l its.toArray := ⟨_, hg, rfl, n, rfl⟩
  have hlen : its.length = xs.length := (Paired.length rs).symm
  have hjl : j < its.length := by
    have h1 : j < ds.length := (List.findIdx?_eq_some_iff_getElem.mp hj).1
    have h2 := hds.length
    omega
  refine PySem.SeqAt.remove_list_data (vs := its.toArray) isl (by simpa using r1) r2 p1 p2 (by omega) hj (by rw [List.size_toArray, hlen]; exact hz) ?_
  have J := I.lstUpd (f := Obj.mapSeq fun ys => ys.eraseIdxIfInBounds j) (its' := its.eraseIdx j) (n' := n + 1) (ys := xs.eraseIdx j) hl hg (by
    show Obj.mapSeq _ _ = _
    unfold Obj.mapSeq
    have hne : ¬ (its.eraseIdx j).length = its.length := by rw [List.length_eraseIdx, if_pos hjl]; omega
    simp [Array.eraseIdxIfInBounds, hjl, hne]) (vals_erase rs j) (Nat.le_trans (List.length_eraseIdx_le ..) hz) s.toks
  exact ⟨.non, _, J, rfl, q⟩
end WK

/-! machines, plainly -/
namespace PM
open PySem PySem.Spec PyProof.Rows L2 WK
abbrev Wt := Int × Nat × Nat
abbrev Cd := Int × Nat × Nat × Nat
abbrev Or := Str × Int × Int
/-- a step done: order, piece, step, machine, begin, end -/
structure Wr where
  o : Nat
  p : Nat
  s : Nat
  m : Nat
  b : Int
  e : Int
  deriving DecidableEq
def encWt (x : Wt) : PyData := .tuple [.int x.1, .int (x.2.1 : Int), .int (x.2.2 : Int)]
def encCd (x : Cd) : PyData := .tuple [.int x.1, .int (x.2.1 : Int), .int (x.2.2.1 : Int), .int (x.2.2.2 : Int)]
def encOr (x : Or) : PyData := .tuple [.str x.1, .int x.2.1, .int x.2.2]
def encWr (x : Wr) : PyData := .tuple [.int (x.o : Int), .int (x.p : Int), .int (x.s : Int), .int (x.m : Int), .int x.b, .int x.e]
def ltWt (x y : Wt) : Bool := decide (x.1 < y.1) || !decide (y.1 < x.1) && (decide (x.2.1 < y.2.1) || !decide (y.2.1 < x.2.1) && decide (x.2.2 < y.2.2))
def ltCd (x y : Cd) : Bool := decide (x.1 < y.1) || !decide (y.1 < x.1) && (decide (x.2.1 < y.2.1) || !decide (y.2.1 < x.2.1) && (decide (x.2.2.1 < y.2.2.1) || !decide (y.2.2.1 < x.2.2.1) && decide (x.2.2.2 < y.2.2.2)))
def minF {α : Type} (lt : α → α → Bool) (x : α) (xs : List α) : α := xs.foldl (fun a y => if lt y a = true then y else a) x
def minO {α : Type} (lt : α → α → Bool) : List α → Option α
  | [] => none
  | x :: xs => some (minF lt x xs)
theorem minF_mem {α : Type} (lt : α → α → Bool) : ∀ (xs : List α) (x : α), minF lt x xs ∈ x :: xs
  | [], _ => .head _
  | y :: ys, x => by
    have h := minF_mem lt ys (if lt y x = true then y else x)
    show minF lt (if lt y x = true then y else x) ys ∈ _
    rcases List.mem_cons.mp h with h | h
    · rw [h]
      split
      · exact .tail _ (.head _)
      · exact .head _
    · exact .tail _ (.tail _ h)
theorem minO_mem {α : Type} {lt : α → α → Bool} {xs : List α} {x : α} (h : minO lt xs = some x) : x ∈ xs := by
  cases xs with
  | nil => cases h
  | cons y ys => cases h; exact minF_mem lt ys y
/-- where lt is an order: no other one is less -/
structure LtOk {α : Type} (lt : α → α → Bool) : Prop where
  irr : ∀ x, lt x x = false
  as : ∀ x y, lt x y = true → lt y x = false
  tr : ∀ x y z, lt y x = false → lt z y = false → lt z x = false
theorem minF_le {α : Type} {lt : α → α → Bool} (h : LtOk lt) : ∀ (xs : List α) (x : α), ∀ y ∈ x :: xs, lt y (minF lt x xs) = false
  | [], x, y, hy => by rw [List.mem_singleton.mp hy]; exact h.irr x
  | z :: zs, x, y, hy => by
    have ih := minF_le h zs (if lt z x = true then z else x)
    show lt y (minF lt (if lt z x = true then z else x) zs) = false
    have hc := ih _ (.head _)
    rcases List.mem_cons.mp hy with rfl | hy
    · by_cases hz : lt z y = true
      · rw [if_pos hz] at hc ⊢
        exact h.tr _ z _ hc (h.as _ _ hz)
      · rw [if_neg hz] at hc ⊢
        exact hc
    · rcases List.mem_cons.mp hy with rfl | hy
      · by_cases hz : lt y x = true
        · rw [if_pos hz] at hc ⊢
          exact hc
        · rw [if_neg hz] at hc ⊢
          exact h.tr _ x _ hc (Bool.eq_false_iff.mpr hz)
      · exact ih y (.tail _ hy)
theorem minO_le {α : Type} {lt : α → α → Bool} (h : LtOk lt) {xs : List α} {x : α} (e : minO lt xs = some x) : ∀ y ∈ xs, lt y x = false := by
  cases xs with
  | nil => cases e
  | cons z zs => cases e; exact minF_le h zs z
theorem ltWt_iff (x y : Wt) : ltWt x y = true ↔ x.1 < y.1 ∨ (x.1 = y.1 ∧ (x.2.1 < y.2.1 ∨ (x.2.1 = y.2.1 ∧ x.2.2 < y.2.2))) := by
  unfold ltWt
  simp only [Bool.or_eq_true, Bool.and_eq_true, decide_eq_true_iff, Bool.not_eq_true', decide_eq_false_iff_not]
  omega
theorem ltCd_iff (x y : Cd) : ltCd x y = true ↔ x.1 < y.1 ∨ (x.1 = y.1 ∧ (x.2.1 < y.2.1 ∨ (x.2.1 = y.2.1 ∧ (x.2.2.1 < y.2.2.1 ∨ (x.2.2.1 = y.2.2.1 ∧ x.2.2.2 < y.2.2.2))))) := by
  unfold ltCd
  simp only [Bool.or_eq_true, Bool.and_eq_true, decide_eq_true_iff, Bool.not_eq_true', decide_eq_false_iff_not]
  omega
theorem ltWt_ok : LtOk ltWt where
  irr := fun x => Bool.eq_false_iff.mpr fun h => by have := (ltWt_iff x x).mp h; omega
  as := fun x y h => Bool.eq_false_iff.mpr fun g => by have h1 := (ltWt_iff x y).mp h; have h2 := (ltWt_iff y x).mp g; omega
  tr := fun x y z h g => Bool.eq_false_iff.mpr fun k => by
    have h1 : ¬ _ := fun q => Bool.eq_false_iff.mp h ((ltWt_iff y x).mpr q)
    have h2 : ¬ _ := fun q => Bool.eq_false_iff.mp g ((ltWt_iff z y).mpr q)
    have h3 := (ltWt_iff z x).mp k
    omega
theorem ltCd_ok : LtOk ltCd where
  irr := fun x => Bool.eq_false_iff.mpr fun h => by have := (ltCd_iff x x).mp h; omega
  as := fun x y h => Bool.eq_false_iff.mpr fun g => by have h1 := (ltCd_iff x y).mp h; have h2 := (ltCd_iff y x).mp g; omega
  tr := fun x y z h g => Bool.eq_false_iff.mpr fun k => by
    have h1 : ¬ _ := fun q => Bool.eq_false_iff.mp h ((ltCd_iff y x).mpr q)
    have h2 : ¬ _ := fun q => Bool.eq_false_iff.mp g ((ltCd_iff z y).mpr q)
    have h3 := (ltCd_iff z x).mp k
    omega
/-! as the library's order of data -/
theorem lt_encWt (x y : Wt) : PySem.W.dataLt (encWt x) (encWt y) = ltWt x y := by
  unfold PySem.W.dataLt encWt
  simp only [PySem.W.keyToks, PySem.W.keyToksAll, List.nil_append, List.cons_append, PyProof.Rows.lexLt]
  unfold ltWt
  simp [PyProof.Rows.itemLt]
theorem lt_encCd (x y : Cd) : PySem.W.dataLt (encCd x) (encCd y) = ltCd x y := by
  unfold PySem.W.dataLt encCd
  simp only [PySem.W.keyToks, PySem.W.keyToksAll, List.nil_append, List.cons_append, PyProof.Rows.lexLt]
  unfold ltCd
  simp [PyProof.Rows.itemLt]
theorem minD_map {α : Type} {lt : α → α → Bool} {enc : α → PyData} (h : ∀ x y, PySem.W.dataLt (enc x) (enc y) = lt x y) : ∀ (xs : List α) (x : α), PySem.W.minD (enc x) (xs.map enc) = enc (minF lt x xs)
  | [], _ => rfl
  | y :: ys, x => by
    have ih := minD_map h ys (if lt y x = true then y else x)
    unfold PySem.W.minD at ih ⊢
    rw [List.map_cons, List.foldl_cons, h y x]
    show _ = enc (minF lt (if lt y x = true then y else x) ys)
    rw [← ih]
    split <;> rfl
theorem alike_Wt (xs : List Wt) : PySem.W.AlikeAll (xs.map encWt) := by
  refine ⟨fun x hx y hy => ?_, fun x hx z => ?_⟩
  · obtain ⟨a, _, rfl⟩ := List.mem_map.mp hx
    obtain ⟨b, _, rfl⟩ := List.mem_map.mp hy
    rfl
  · obtain ⟨a, _, rfl⟩ := List.mem_map.mp hx
    cases z
theorem alike_Cd (xs : List Cd) : PySem.W.AlikeAll (xs.map encCd) := by
  refine ⟨fun x hx y hy => ?_, fun x hx z => ?_⟩
  · obtain ⟨a, _, rfl⟩ := List.mem_map.mp hx
    obtain ⟨b, _, rfl⟩ := List.mem_map.mp hy
    rfl
  · obtain ⟨a, _, rfl⟩ := List.mem_map.mp hx
    cases z
/-! ### the queue -/
structure Mq where
  wait : List (List Wt)
  free : List Int
  at_ : List ((Nat × Nat) × Nat)
  found : List Wr
def getP (l : List ((Nat × Nat) × Nat)) (k : Nat × Nat) : Nat := ((l.find? fun x => decide (x.1 = k)).map (·.2)).getD 0
def putP (l : List ((Nat × Nat) × Nat)) (k : Nat × Nat) (v : Nat) : List ((Nat × Nat) × Nat) := if (l.any fun x => decide (x.1 = k)) = true then l.map (fun x => if x.1 = k then (x.1, v) else x) else l ++ [(k, v)]
def candOf (free : List Int) (m : Nat) (w : List Wt) : Option Cd := (minO ltWt w).map fun x => (max x.1 (free.getD m 0), m, x.2.1, x.2.2)
def Mq.cands (q : Mq) : List Cd := q.wait.zipIdx.filterMap fun x => candOf q.free x.2 x.1
def Mq.next (q : Mq) : Option Cd := minO ltCd q.cands
/-- the first that is the same is taken out -/
def takeOut (w : List Wt) : List Wt := match minO ltWt w with
  | none => w
  | some x => w.erase x
def Mq.step (S : Nat → List (Int × Int)) (q : Mq) (c : Cd) : Mq :=
  let m := c.2.1
  let o := c.2.2.1
  let p := c.2.2.2
  let s := getP q.at_ (o, p)
  let e := c.1 + ((S o)[s]?.getD (0, 0)).2
  let w1 := q.wait.set m (takeOut (q.wait.getD m []))
  let w2 := match (S o)[s + 1]? with
    | some x => w1.set x.1.toNat (w1.getD x.1.toNat [] ++ [(e, o, p)])
    | none => w1
  { wait := w2, free := q.free.set m e, at_ := putP q.at_ (o, p) (s + 1), found := q.found ++ [⟨o, p, s, m, c.1, e⟩] }
/-- how it goes on to its end -/
inductive Runs (S : Nat → List (Int × Int)) : Mq → List Wr → Prop
  | stop {q : Mq} : q.next = none → Runs S q q.found
  | step {q : Mq} {c : Cd} {rows : List Wr} : q.next = some c → Runs S (q.step S c) rows → Runs S q rows
theorem Runs.det {S : Nat → List (Int × Int)} {q : Mq} {r1 r2 : List Wr} (h1 : Runs S q r1) (h2 : Runs S q r2) : r1 = r2 := by
  induction h1 generalizing r2 with
  | stop h =>
    cases h2 with
    | stop _ => rfl
    | step g _ => rw [h] at g; cases g
  | step h _ ih =>
    cases h2 with
    | stop g => rw [h] at g; cases g
    | step g k =>
      rw [h] at g
      cases g
      exact ih k
def stOf (rs : List PRow) (os : List Or) (o : Nat) : List (Int × Int) := match os[o]? with
  | some x => (match PM.rowOf rs x.1 with
    | some r => r.steps
    | none => [])
  | none => []
/-- an order's pieces wait for their first step -/
def addOr (S : Nat → List (Int × Int)) (w : List (List Wt)) (x : Or) (o : Nat) : List (List Wt) := match (S o)[0]? with
  | some y => w.set y.1.toNat (w.getD y.1.toNat [] ++ (List.range x.2.1.toNat).map fun p => (x.2.2, o, p))
  | none => w
def startQ (S : Nat → List (Int × Int)) (os : List Or) : Mq := ⟨os.zipIdx.foldl (fun w x => addOr S w x.1 x.2) (List.replicate 6 []), List.replicate 6 0, [], []⟩
end PM

/-! machines, plainly: what stays true, and that it comes to an end -/
namespace PM
open PySem PySem.Spec PyProof.Rows L2 WK
theorem getP_putP (l : List ((Nat × Nat) × Nat)) (k j : Nat × Nat) (v : Nat) : getP (putP l k v) j = if j = k then v else getP l j := by
  unfold getP putP
  by_cases h : (l.any fun x => decide (x.1 = k)) = true
  · rw [if_pos h]
    have go : ∀ l : List ((Nat × Nat) × Nat), (l.any fun x => decide (x.1 = k)) = true ∨ j ≠ k → ((l.map fun x => if x.1 = k then (x.1, v) else x).find? fun x => decide (x.1 = j)).map (·.2) = if j = k then some v else (l.find? fun x => decide (x.1 = j)).map (·.2) := by
      intro l
      induction l with
      | nil =>
        intro h
        rcases h with h | h
        · cases h
        · rw [if_neg h]
          rfl
      | cons a l ih =>
        intro h
        rw [List.map_cons]
        by_cases ha : a.1 = k
        · rw [if_pos ha]
          by_cases hj : j = k
          · rw [if_pos hj, List.find?_cons_of_pos (by show decide (a.1 = j) = true; rw [ha, hj]; exact decide_eq_true rfl)]
            rfl
          · rw [if_neg hj, List.find?_cons_of_neg (by show ¬ decide (a.1 = j) = true; rw [ha]; simpa using fun z => hj z.symm), List.find?_cons_of_neg (by rw [ha]; simpa using fun z => hj z.symm), ih (.inr hj), if_neg hj]
        · rw [if_neg ha]
          by_cases hj : a.1 = j
          · have hjk : j ≠ k := fun z => ha (hj.trans z)
            rw [if_neg hjk, List.find?_cons_of_pos (by simpa using hj), List.find?_cons_of_pos (by simpa using hj)]
          · rw [List.find?_cons_of_neg (by simpa using hj), List.find?_cons_of_neg (by simpa using hj)]
            refine ih ?_
            rcases h with h | h
            · rw [List.any_cons, decide_eq_false ha, Bool.false_or] at h
              exact .inl h
            · exact .inr h
    rw [go l (.inl h)]
    split <;> rfl
  · rw [if_neg h, List.find?_append]
    by_cases hj : j = k
    · subst hj
      rw [if_pos rfl]
      have : (l.find? fun x => decide (x.1 = j)) = none := by
        rw [List.find?_eq_none]
        intro x hx hc
        exact h (List.any_eq_true.mpr ⟨x, hx, hc⟩)
      rw [this]
      simp
    · rw [if_neg hj]
      cases hf : l.find? fun x => decide (x.1 = j) with
      | some y => rfl
      | none =>
        show ((([(k, v)] : List ((Nat × Nat) × Nat)).find? fun x => decide (x.1 = j)).map (·.2)).getD 0 = _
        rw [List.find?_cons_of_neg (by simpa using fun z => hj z.symm)]
        rfl
theorem putP_len (l : List ((Nat × Nat) × Nat)) (k : Nat × Nat) (v : Nat) : (putP l k v).length ≤ l.length + 1 := by
  unfold putP
  split
  · rw [List.length_map]
    exact Nat.le_succ _
  · rw [List.length_append]
    exact Nat.le_refl _
/-- one list of a list of lists changed -/
theorem flat_set {α : Type} : ∀ {l : List (List α)} {i : Nat} {w : List α} (w' : List α), l[i]? = some w → ∃ r, l.flatten.Perm (w ++ r) ∧ (l.set i w').flatten.Perm (w' ++ r)
  | [], i, w, w', h => by simp at h
  | a :: l, 0, w, w', h => by
    have : a = w := Option.some.inj h
    subst this
    exact ⟨l.flatten, List.Perm.refl _, List.Perm.refl _⟩
  | a :: l, i + 1, w, w', h => by
    obtain ⟨r, h1, h2⟩ := flat_set (l := l) (i := i) w' h
    refine ⟨a ++ r, ?_, ?_⟩
    · show (a ++ l.flatten).Perm _
      exact (List.Perm.append_left a h1).trans (List.perm_append_comm_assoc ..)
    · show (a ++ (l.set i w').flatten).Perm _
      exact (List.Perm.append_left a h2).trans (List.perm_append_comm_assoc ..)
structure MqOk (S : Nat → List (Int × Int)) (n : Nat) (q : Mq) : Prop where
  w6 : q.wait.length = 6
  f6 : q.free.length = 6
  it : ∀ (m : Nat) (w : List Wt) (x : Wt), q.wait[m]? = some w → x ∈ w → x.2.1 < n ∧ ∃ mi, (S x.2.1)[getP q.at_ x.2]? = some ((m : Int), mi)
  nd : (q.wait.flatten.map (·.2)).Nodup
def Mq.left (S : Nat → List (Int × Int)) (q : Mq) : Nat := (q.wait.flatten.map fun x => (S x.2.1).length - getP q.at_ x.2).sum
theorem minO_none {α : Type} {lt : α → α → Bool} {xs : List α} (h : minO lt xs = none) : xs = [] := by
  cases xs with
  | nil => rfl
  | cons a b => cases h
/-- what comes next: the first of those that wait for a machine -/
theorem next_at {q : Mq} {c : Cd} (h : q.next = some c) : ∃ (w : List Wt) (x : Wt), q.wait[c.2.1]? = some w ∧ minO ltWt w = some x ∧ x ∈ w ∧ x.2 = c.2.2 ∧ c.1 = max x.1 (q.free.getD c.2.1 0) := by
  have hm := minO_mem h
  unfold Mq.cands at hm
  obtain ⟨⟨w, m⟩, hw, hc⟩ := List.mem_filterMap.mp hm
  have hw := List.mem_zipIdx_iff_getElem?.mp hw
  unfold candOf at hc
  obtain ⟨x, hx, rfl⟩ := Option.map_eq_some_iff.mp hc
  exact ⟨w, x, hw, hx, minO_mem hx, rfl, rfl⟩
theorem takeOut_eq {w : List Wt} {x : Wt} (h : minO ltWt w = some x) : takeOut w = w.erase x := by
  unfold takeOut
  rw [h]
/-- a step: what it does to those that wait, as a whole -/
theorem step_perm {S : Nat → List (Int × Int)} {n : Nat} {q : Mq} {c : Cd} (ok : MqOk S n q) (hS : ∀ o x, x ∈ S o → 0 ≤ x.1 ∧ x.1 < 6) (h : q.next = some c) :
    ∃ (x : Wt) (r : List Wt), x.2 = c.2.2 ∧ q.wait.flatten.Perm (x :: r) ∧ ((∃ (y : Int × Int), (S c.2.2.1)[getP q.at_ c.2.2 + 1]? = some y ∧ (q.step S c).wait.flatten.Perm ((c.1 + ((S c.2.2.1)[getP q.at_ c.2.2]?.getD (0, 0)).2, c.2.2) :: r)) ∨ ((S c.2.2.1)[getP q.at_ c.2.2 + 1]? = none ∧ (q.step S c).wait.flatten.Perm r)) := by
  obtain ⟨w, x, hw, hx, hxm, hxc, _⟩ := next_at h
  obtain ⟨r0, p1, p2⟩ := flat_set (takeOut w) hw
  rw [takeOut_eq hx] at p2
  have pe : w.Perm (x :: w.erase x) := List.perm_cons_erase hxm
  have hg : q.wait.getD c.2.1 [] = w := by rw [List.getD_eq_getElem?_getD, hw]; rfl
  refine ⟨x, w.erase x ++ r0, hxc, p1.trans (List.Perm.append_right r0 pe), ?_⟩
  cases hs : (S c.2.2.1)[getP q.at_ c.2.2 + 1]? with
  | none =>
    refine .inr ⟨rfl, ?_⟩
    have e : (q.step S c).wait = q.wait.set c.2.1 (takeOut (q.wait.getD c.2.1 [])) := by
      unfold Mq.step
      dsimp only
      rw [show (S c.2.2.1)[getP q.at_ (c.2.2.1, c.2.2.2) + 1]? = none from hs]
    rw [e, hg, takeOut_eq hx]
    exact p2
  | some y =>
    refine .inl ⟨y, rfl, ?_⟩
    have e : (q.step S c).wait = (q.wait.set c.2.1 (w.erase x)).set y.1.toNat ((q.wait.set c.2.1 (w.erase x)).getD y.1.toNat [] ++ [(c.1 + ((S c.2.2.1)[getP q.at_ c.2.2]?.getD (0, 0)).2, c.2.2)]) := by
      unfold Mq.step
      dsimp only
      rw [show (S c.2.2.1)[getP q.at_ (c.2.2.1, c.2.2.2) + 1]? = some y from hs, hg, takeOut_eq hx]
    rw [e]
    have hy := hS _ y (List.mem_of_getElem? hs)
    have hl : y.1.toNat < (q.wait.set c.2.1 (w.erase x)).length := by rw [List.length_set, ok.w6]; omega
    have hw2 : (q.wait.set c.2.1 (w.erase x))[y.1.toNat]? = some ((q.wait.set c.2.1 (w.erase x)).getD y.1.toNat []) := by
      rw [List.getD_eq_getElem?_getD, List.getElem?_eq_getElem hl]
      rfl
    obtain ⟨r1, p3, p4⟩ := flat_set ((q.wait.set c.2.1 (w.erase x)).getD y.1.toNat [] ++ [(c.1 + ((S c.2.2.1)[getP q.at_ c.2.2]?.getD (0, 0)).2, c.2.2)]) hw2
    refine p4.trans ?_
    rw [List.append_assoc]
    refine (List.perm_append_comm_assoc ..).trans ?_
    exact List.Perm.cons _ (p3.symm.trans p2)
end PM

/-! machines, plainly: what stays true, and that it comes to an end (2) -/
namespace PM
open PySem PySem.Spec PyProof.Rows L2 WK
theorem mem_flat {α : Type} {l : List (List α)} {i : Nat} {w : List α} {x : α} (h : l[i]? = some w) (hx : x ∈ w) : x ∈ l.flatten := List.mem_flatten.mpr ⟨w, List.mem_of_getElem? h, hx⟩
theorem erase_ne {w : List Wt} {x y : Wt} (h : y ∈ w.erase x) : y ∈ w := List.mem_of_mem_erase h
/-- where a piece waits behind a step -/
theorem step_at {S : Nat → List (Int × Int)} {q : Mq} {c : Cd} {w : List Wt} {x : Wt} (hw : q.wait[c.2.1]? = some w) (hx : minO ltWt w = some x) {m : Nat} {u : List Wt} {y : Wt} (hu : (q.step S c).wait[m]? = some u) (hy : y ∈ u) :
    (∃ v, q.wait[m]? = some v ∧ y ∈ v ∧ (m = c.2.1 → y ∈ v.erase x)) ∨ (∃ z, (S c.2.2.1)[getP q.at_ c.2.2 + 1]? = some z ∧ m = z.1.toNat ∧ y.2 = c.2.2) := by
  have hg : q.wait.getD c.2.1 [] = w := by rw [List.getD_eq_getElem?_getD, hw]; rfl
  have old : ∀ {k : Nat} {v : List Wt}, (q.wait.set c.2.1 (w.erase x))[k]? = some v → ∀ y ∈ v, ∃ v', q.wait[k]? = some v' ∧ y ∈ v' ∧ (k = c.2.1 → y ∈ v'.erase x) := fun {k v} hv y hy => by
    rw [List.getElem?_set] at hv
    split at hv
    · rename_i hk
      subst hk
      split at hv
      · cases hv
        exact ⟨w, hw, erase_ne hy, fun _ => hy⟩
      · cases hv
    · rename_i hk
      exact ⟨v, hv, hy, fun z => absurd z.symm hk⟩
  cases hs : (S c.2.2.1)[getP q.at_ c.2.2 + 1]? with
  | none =>
    have e : (q.step S c).wait = q.wait.set c.2.1 (takeOut (q.wait.getD c.2.1 [])) := by
      unfold Mq.step
      dsimp only
      rw [show (S c.2.2.1)[getP q.at_ (c.2.2.1, c.2.2.2) + 1]? = none from hs]
    rw [e, hg, takeOut_eq hx] at hu
    exact .inl (old hu y hy)
  | some z =>
    have e : (q.step S c).wait = (q.wait.set c.2.1 (w.erase x)).set z.1.toNat ((q.wait.set c.2.1 (w.erase x)).getD z.1.toNat [] ++ [(c.1 + ((S c.2.2.1)[getP q.at_ c.2.2]?.getD (0, 0)).2, c.2.2)]) := by
      unfold Mq.step
      dsimp only
      rw [show (S c.2.2.1)[getP q.at_ (c.2.2.1, c.2.2.2) + 1]? = some z from hs, hg, takeOut_eq hx]
    rw [e, List.getElem?_set] at hu
    split at hu
    · rename_i hk
      subst hk
      split at hu
      · cases hu
        rcases List.mem_append.mp hy with hy | hy
        · rw [List.getD_eq_getElem?_getD] at hy
          cases hv : (q.wait.set c.2.1 (w.erase x))[z.1.toNat]? with
          | none => rw [hv] at hy; cases hy
          | some v => rw [hv] at hy; exact .inl (old hv y hy)
        · rw [List.mem_singleton.mp hy]
          exact .inr ⟨z, rfl, rfl, rfl⟩
      · cases hu
    · exact .inl (old hu y hy)
theorem step_getP (S : Nat → List (Int × Int)) (q : Mq) (c : Cd) (j : Nat × Nat) : getP (q.step S c).at_ j = if j = c.2.2 then getP q.at_ c.2.2 + 1 else getP q.at_ j := by
  show getP (putP q.at_ (c.2.2.1, c.2.2.2) (getP q.at_ (c.2.2.1, c.2.2.2) + 1)) j = _
  rw [getP_putP]
theorem MqOk.step {S : Nat → List (Int × Int)} {n : Nat} {q : Mq} {c : Cd} (ok : MqOk S n q) (hS : ∀ o x, x ∈ S o → 0 ≤ x.1 ∧ x.1 < 6) (h : q.next = some c) : MqOk S n (q.step S c) := by
  obtain ⟨w, x, hw, hx, hxm, hxc, _⟩ := next_at h
  obtain ⟨hxn, mi, hmi⟩ := ok.it _ _ _ hw hxm
  obtain ⟨x2, r, hx2, p1, p2⟩ := step_perm ok hS h
  have ndr : ((x2 :: r).map (·.2)).Nodup := (p1.map _).nodup_iff.mp ok.nd
  have hnr : c.2.2 ∉ r.map (·.2) := by
    have h0 : x2.2 ∉ r.map (·.2) := (List.nodup_cons.mp ndr).1
    rw [hx2] at h0
    exact h0
  have ndr2 := (List.nodup_cons.mp ndr).2
  have w6' : (q.step S c).wait.length = 6 := by
    unfold Mq.step
    dsimp only
    split
    · rw [List.length_set, List.length_set]; exact ok.w6
    · rw [List.length_set]; exact ok.w6
  have nd' : ((q.step S c).wait.flatten.map (·.2)).Nodup := by
    rcases p2 with ⟨y, _, p⟩ | ⟨_, p⟩
    · refine (p.map _).nodup_iff.mpr (List.nodup_cons.mpr ⟨hnr, ndr2⟩)
    · exact (p.map _).nodup_iff.mpr ndr2
  refine ⟨w6', by show (q.free.set _ _).length = 6; rw [List.length_set]; exact ok.f6, fun m u y hu hy => ?_, nd'⟩
  rw [step_getP]
  rcases step_at hw hx hu hy with ⟨v, hv, hyv, hve⟩ | ⟨z, hz, hm, hy2⟩
  · obtain ⟨h1, mi2, h2⟩ := ok.it m v y hv hyv
    have hne : y.2 ≠ c.2.2 := by
      intro e
      -- y waited before, so it is x itself; but x was taken out
      obtain ⟨rw_, q1, _⟩ := flat_set [] hw
      have pe : w.Perm (x :: w.erase x) := List.perm_cons_erase hxm
      have nd0 : ((w ++ rw_).map (·.2)).Nodup := (q1.map _).nodup_iff.mp ok.nd
      by_cases hmc : m = c.2.1
      · subst hmc
        rw [hw] at hv
        cases hv
        have hye := hve rfl
        have nd1 : ((x :: w.erase x).map (·.2)).Nodup := by
          rw [List.map_append, List.nodup_append] at nd0
          exact (pe.map _).nodup_iff.mp nd0.1
        refine (List.nodup_cons.mp nd1).1 ?_
        show x.2 ∈ _
        rw [hxc, ← e]
        exact List.mem_map.mpr ⟨y, hye, rfl⟩
      · have hyr : y ∈ rw_ := by
          have : y ∈ (q.wait.set c.2.1 []).flatten := by
            refine mem_flat (i := m) (w := v) ?_ hyv
            rw [List.getElem?_set, if_neg (fun z => hmc z.symm)]
            exact hv
          obtain ⟨rw2, q2, q3⟩ := flat_set [] hw
          have h4 : (q.wait.set c.2.1 []).flatten.Perm rw_ := by
            have h5 : (w ++ rw2).Perm (w ++ rw_) := q2.symm.trans q1
            exact q3.trans ((List.perm_append_left_iff w).mp h5)
          exact h4.mem_iff.mp this
        rw [List.map_append, List.nodup_append] at nd0
        refine nd0.2.2 x.2 (List.mem_map.mpr ⟨x, hxm, rfl⟩) y.2 (List.mem_map.mpr ⟨y, hyr, rfl⟩) ?_
        rw [hxc, e]
    rw [if_neg hne]
    exact ⟨h1, mi2, h2⟩
  · rw [hy2, if_pos rfl]
    refine ⟨by rw [← hxc]; exact hxn, z.2, ?_⟩
    rw [hz, hm]
    have hb := hS _ z (List.mem_of_getElem? hz)
    have : ((z.1.toNat : Nat) : Int) = z.1 := by omega
    rw [this]
theorem step_left {S : Nat → List (Int × Int)} {n : Nat} {q : Mq} {c : Cd} (ok : MqOk S n q) (hS : ∀ o x, x ∈ S o → 0 ≤ x.1 ∧ x.1 < 6) (h : q.next = some c) : (q.step S c).left S + 1 = q.left S := by
  obtain ⟨w, x0, hw, hx, hxm, hxc, _⟩ := next_at h
  obtain ⟨hxn, mi, hmi⟩ := ok.it _ _ _ hw hxm
  obtain ⟨x, r, hx2, p1, p2⟩ := step_perm ok hS h
  have ndr : ((x :: r).map (·.2)).Nodup := (p1.map _).nodup_iff.mp ok.nd
  have hnr : c.2.2 ∉ r.map (·.2) := by
    have h0 : x.2 ∉ r.map (·.2) := (List.nodup_cons.mp ndr).1
    rw [hx2] at h0
    exact h0
  have hlt : getP q.at_ c.2.2 < (S c.2.2.1).length := by
    rw [hxc] at hmi
    exact (List.getElem?_eq_some_iff.mp hmi).1
  have hr : (r.map fun y => (S y.2.1).length - getP (q.step S c).at_ y.2) = r.map fun y => (S y.2.1).length - getP q.at_ y.2 := by
    refine List.map_congr_left fun y hy => ?_
    rw [step_getP, if_neg (fun e => hnr (by rw [← e]; exact List.mem_map.mpr ⟨y, hy, rfl⟩))]
  have e1 : q.left S = (S c.2.2.1).length - getP q.at_ c.2.2 + (r.map fun y => (S y.2.1).length - getP q.at_ y.2).sum := by
    unfold Mq.left
    rw [(p1.map fun y => (S y.2.1).length - getP q.at_ y.2).sum_nat, List.map_cons, List.sum_cons, hx2]
  rcases p2 with ⟨y, hy, p⟩ | ⟨hy, p⟩
  · have hl2 := (List.getElem?_eq_some_iff.mp hy).1
    have e2 : (q.step S c).left S = (S c.2.2.1).length - (getP q.at_ c.2.2 + 1) + (r.map fun y => (S y.2.1).length - getP q.at_ y.2).sum := by
      unfold Mq.left
      rw [(p.map fun y => (S y.2.1).length - getP (q.step S c).at_ y.2).sum_nat, List.map_cons, List.sum_cons, hr]
      show (S c.2.2.1).length - getP (q.step S c).at_ c.2.2 + _ = _
      rw [step_getP, if_pos rfl]
    rw [e1, e2]
    omega
  · have hl2 := List.getElem?_eq_none_iff.mp hy
    have e2 : (q.step S c).left S = (r.map fun y => (S y.2.1).length - getP q.at_ y.2).sum := by
      unfold Mq.left
      rw [(p.map fun y => (S y.2.1).length - getP (q.step S c).at_ y.2).sum_nat, hr]
    rw [e1, e2]
    omega
/-- it comes to an end -/
theorem runs_ex {S : Nat → List (Int × Int)} {n : Nat} (hS : ∀ o x, x ∈ S o → 0 ≤ x.1 ∧ x.1 < 6) : ∀ (k : Nat) (q : Mq), MqOk S n q → q.left S = k → ∃ rows, Runs S q rows := by
  intro k
  induction k with
  | zero =>
    intro q ok hk
    cases h : q.next with
    | none => exact ⟨_, .stop h⟩
    | some c => have := step_left ok hS h; omega
  | succ k ih =>
    intro q ok hk
    cases h : q.next with
    | none => exact ⟨_, .stop h⟩
    | some c =>
      obtain ⟨rows, hr⟩ := ih _ (ok.step hS h) (by have := step_left ok hS h; omega)
      exact ⟨rows, .step h hr⟩
end PM

/-! machines, plainly: how it begins -/
namespace PM
open PySem PySem.Spec PyProof.Rows L2 WK
/-- what waits at the beginning, of the first i orders -/
structure QsOk (S : Nat → List (Int × Int)) (i T : Nat) (w : List (List Wt)) : Prop where
  w6 : w.length = 6
  it : ∀ (m : Nat) (u : List Wt) (x : Wt), w[m]? = some u → x ∈ u → x.2.1 < i ∧ ∃ mi, (S x.2.1)[0]? = some ((m : Int), mi)
  nd : (w.flatten.map (·.2)).Nodup
  few : w.flatten.length ≤ T
theorem QsOk.nil (S : Nat → List (Int × Int)) : QsOk S 0 0 (List.replicate 6 []) where
  w6 := rfl
  it := fun m u x hu hx => by
    have := List.eq_of_mem_replicate (List.mem_of_getElem? hu)
    rw [this] at hx
    cases hx
  nd := List.nodup_nil
  few := Nat.le_refl _
theorem QsOk.add {S : Nat → List (Int × Int)} {i T : Nat} {w : List (List Wt)} (h : QsOk S i T w) (hS : ∀ o x, x ∈ S o → 0 ≤ x.1 ∧ x.1 < 6) (y : Or) : QsOk S (i + 1) (T + y.2.1.toNat) (addOr S w y i) := by
  unfold addOr
  cases hs : (S i)[0]? with
  | none => exact ⟨h.w6, fun m u x hu hx => let ⟨a, b⟩ := h.it m u x hu hx; ⟨Nat.lt_succ_of_lt a, b⟩, h.nd, Nat.le_trans h.few (Nat.le_add_right ..)⟩
  | some z =>
    have hz := hS i z (List.mem_of_getElem? hs)
    have hl : z.1.toNat < w.length := by rw [h.w6]; omega
    have hw : w[z.1.toNat]? = some (w.getD z.1.toNat []) := by
      rw [List.getD_eq_getElem?_getD, List.getElem?_eq_getElem hl]
      rfl
    dsimp only
    obtain ⟨r, p1, p2⟩ := flat_set (w.getD z.1.toNat [] ++ (List.range y.2.1.toNat).map fun p => ((y.2.2, i, p) : Wt)) hw
    have p3 : (w.set z.1.toNat (w.getD z.1.toNat [] ++ (List.range y.2.1.toNat).map fun p => ((y.2.2, i, p) : Wt))).flatten.Perm (((List.range y.2.1.toNat).map fun p => ((y.2.2, i, p) : Wt)) ++ w.flatten) := by
      refine p2.trans ?_
      rw [List.append_assoc]
      refine (List.perm_append_comm_assoc ..).trans ?_
      exact List.Perm.append_left _ p1.symm
    refine ⟨by rw [List.length_set]; exact h.w6, fun m u x hu hx => ?_, ?_, ?_⟩
    · rw [List.getElem?_set] at hu
      split at hu
      · rename_i hk
        subst hk
        cases hu
        rcases List.mem_append.mp hx with hx | hx
        · obtain ⟨a, b⟩ := h.it _ _ x hw hx
          exact ⟨Nat.lt_succ_of_lt a, b⟩
        · obtain ⟨p, _, rfl⟩ := List.mem_map.mp hx
          refine ⟨Nat.lt_succ_self _, z.2, ?_⟩
          show (S i)[0]? = _
          rw [hs]
          have : ((z.1.toNat : Nat) : Int) = z.1 := by omega
          rw [this]
      · obtain ⟨a, b⟩ := h.it m u x hu hx
        exact ⟨Nat.lt_succ_of_lt a, b⟩
    · refine (p3.map _).nodup_iff.mpr ?_
      rw [List.map_append, List.nodup_append]
      refine ⟨?_, h.nd, fun a ha b hb e => ?_⟩
      · rw [List.map_map]
        exact List.nodup_range.map (f := (fun x : Wt => x.2) ∘ fun p => ((y.2.2, i, p) : Wt)) fun a b hab h => hab (by
          have h : ((i, a) : Nat × Nat) = (i, b) := h
          exact congrArg Prod.snd h)
      · obtain ⟨x, hx, rfl⟩ := List.mem_map.mp ha
        obtain ⟨p, _, rfl⟩ := List.mem_map.mp hx
        obtain ⟨v, hv, rfl⟩ := List.mem_map.mp hb
        obtain ⟨u, hu, hvu⟩ := List.mem_flatten.mp hv
        obtain ⟨m, hm⟩ := List.getElem?_of_mem hu
        have := (h.it m u v hm hvu).1
        have e : i = v.2.1 := congrArg Prod.fst e
        omega
    · have := p3.length_eq
      rw [this, List.length_append, List.length_map, List.length_range]
      have := h.few
      omega
def manyOf (os : List Or) : Nat := (os.map fun x => x.2.1.toNat).sum
theorem qsOk_take {S : Nat → List (Int × Int)} (hS : ∀ o x, x ∈ S o → 0 ≤ x.1 ∧ x.1 < 6) (os : List Or) : ∀ i, i ≤ os.length → QsOk S i (manyOf (os.take i)) ((os.zipIdx.take i).foldl (fun w x => addOr S w x.1 x.2) (List.replicate 6 []))
  | 0, _ => QsOk.nil S
  | i + 1, hi => by
    have h := qsOk_take hS os i (by omega)
    have hg : os[i]? = some os[i] := List.getElem?_eq_getElem (by omega)
    have hz : os.zipIdx[i]? = some (os[i], i) := by rw [List.getElem?_zipIdx, hg]; simp
    have h2 := h.add hS os[i]
    rw [List.take_add_one (l := os.zipIdx), hz, List.foldl_append, List.take_add_one, hg]
    unfold manyOf at h2 ⊢
    rw [List.map_append, List.sum_append]
    exact h2
theorem startQ_ok {S : Nat → List (Int × Int)} (hS : ∀ o x, x ∈ S o → 0 ≤ x.1 ∧ x.1 < 6) (os : List Or) : MqOk S os.length (startQ S os) ∧ (startQ S os).wait.flatten.length ≤ manyOf os := by
  have h := qsOk_take hS os os.length (Nat.le_refl _)
  have e1 : os.zipIdx.take os.length = os.zipIdx := List.take_of_length_le (by rw [List.length_zipIdx]; exact Nat.le_refl _)
  rw [e1, List.take_length] at h
  exact ⟨⟨h.w6, rfl, fun m u x hu hx => h.it m u x hu hx, h.nd⟩, h.few⟩
theorem left_le {S : Nat → List (Int × Int)} (h5 : ∀ o, (S o).length ≤ 5) (q : Mq) : q.left S ≤ 5 * q.wait.flatten.length := by
  unfold Mq.left
  generalize q.wait.flatten = l
  induction l with
  | nil => exact Nat.zero_le _
  | cons a l ih =>
    rw [List.map_cons, List.sum_cons, List.length_cons]
    have := h5 a.2.1
    omega
/-- an order that can be -/
structure OrsOk (rs : List PRow) (os : List Or) : Prop where
  part : ∀ x ∈ os, ∃ r, PM.rowOf rs x.1 = some r
  many : ∀ x ∈ os, 1 ≤ x.2.1 ∧ x.2.1 ≤ 999
  min : ∀ x ∈ os, 0 ≤ x.2.2 ∧ x.2.2 ≤ 9999
  up : ∀ (i : Nat) (x y : Or), os[i]? = some x → os[i + 1]? = some y → x.2.2 ≤ y.2.2
  few : os.length ≤ 1000
theorem manyOf_le {rs : List PRow} {os : List Or} (h : OrsOk rs os) : manyOf os ≤ 999000 := by
  have go : ∀ l : List Or, (∀ x ∈ l, x.2.1 ≤ 999) → (l.map fun x => x.2.1.toNat).sum ≤ 999 * l.length := by
    intro l
    induction l with
    | nil => intro _; exact Nat.zero_le _
    | cons a l ih =>
      intro hl
      rw [List.map_cons, List.sum_cons, List.length_cons]
      have h1 := hl a (.head _)
      have h2 := ih fun x hx => hl x (.tail _ hx)
      omega
  have h1 := go os fun x hx => (h.many x hx).2
  have h2 := h.few
  unfold manyOf
  omega
theorem stOf_row {rs : List PRow} {os : List Or} {o : Nat} {x : Or} {r : PRow} (h : os[o]? = some x) (hr : PM.rowOf rs x.1 = some r) : stOf rs os o = r.steps := by
  unfold stOf
  rw [h]
  dsimp only
  rw [hr]
theorem stOf_good {rs : List PRow} (G : GoodBook rs) (os : List Or) : (∀ o x, x ∈ stOf rs os o → 0 ≤ x.1 ∧ x.1 < 6) ∧ ∀ o, (stOf rs os o).length ≤ 5 := by
  have key : ∀ o, stOf rs os o = [] ∨ ∃ r, r ∈ rs ∧ stOf rs os o = r.steps := by
    intro o
    unfold stOf
    cases os[o]? with
    | none => exact .inl rfl
    | some x =>
      dsimp only
      cases h : PM.rowOf rs x.1 with
      | none => exact .inl rfl
      | some r => exact .inr ⟨r, (rowOf_mem h).1, rfl⟩
  refine ⟨fun o x hx => ?_, fun o => ?_⟩
  · rcases key o with h | ⟨r, hr, h⟩
    · rw [h] at hx; cases hx
    · rw [h] at hx
      obtain ⟨i, hi⟩ := List.getElem?_of_mem hr
      exact ((G.row i r hi).steps x hx).1
  · rcases key o with h | ⟨r, hr, h⟩
    · rw [h]; exact Nat.zero_le _
    · rw [h]
      obtain ⟨i, hi⟩ := List.getElem?_of_mem hr
      exact (G.row i r hi).few
end PM
namespace PM
open PySem PySem.Spec PyProof.Rows L2 WK
theorem addOr_none {S : Nat → List (Int × Int)} {w : List (List Wt)} {x : Or} {o : Nat} (h : (S o)[0]? = none) : addOr S w x o = w := by
  unfold addOr
  rw [h]
theorem addOr_some {S : Nat → List (Int × Int)} {w : List (List Wt)} {x : Or} {o : Nat} {y : Int × Int} (h : (S o)[0]? = some y) : addOr S w x o = w.set y.1.toNat (w.getD y.1.toNat [] ++ (List.range x.2.1.toNat).map fun p => ((x.2.2, o, p) : Wt)) := by
  unfold addOr
  rw [h]
theorem manyOf_take (n : Nat) : ∀ os : List Or, manyOf (os.take n) ≤ manyOf os := by
  induction n with
  | zero => intro os; exact Nat.zero_le _
  | succ n ih =>
    intro os
    cases os with
    | nil => exact Nat.le_refl _
    | cons a os =>
      have := ih os
      unfold manyOf at this ⊢
      rw [List.take_succ_cons, List.map_cons, List.map_cons, List.sum_cons, List.sum_cons]
      omega
section
variable {S : Nat → List (Int × Int)} {q : Mq} {b : Int} {m o p : Nat} {w : List Wt} {x : Wt}
theorem stepW_none (hw : q.wait[m]? = some w) (hx : minO ltWt w = some x) (h : (S o)[getP q.at_ (o, p) + 1]? = none) : (q.step S (b, m, o, p)).wait = q.wait.set m (w.erase x) := by
  have hg : q.wait.getD m [] = w := by rw [List.getD_eq_getElem?_getD, hw]; rfl
  unfold Mq.step
  dsimp only
  rw [h, hg, takeOut_eq hx]
theorem stepW_some {y : Int × Int} (hw : q.wait[m]? = some w) (hx : minO ltWt w = some x) (h : (S o)[getP q.at_ (o, p) + 1]? = some y) : (q.step S (b, m, o, p)).wait = (q.wait.set m (w.erase x)).set y.1.toNat ((q.wait.set m (w.erase x)).getD y.1.toNat [] ++ [(b + ((S o)[getP q.at_ (o, p)]?.getD (0, 0)).2, o, p)]) := by
  have hg : q.wait.getD m [] = w := by rw [List.getD_eq_getElem?_getD, hw]; rfl
  unfold Mq.step
  dsimp only
  rw [h, hg, takeOut_eq hx]
end
end PM

/-! machines, plainly: ends, used -/
namespace PM
open PySem PySem.Spec PyProof.Rows L2 WK
def endsOf (os : List Or) (rows : List Wr) : List Int := rows.foldl (fun f r => f.set r.o (max (f.getD r.o 0) r.e)) (os.map (·.2.2))
def usedOf (rows : List Wr) : List Int := rows.foldl (fun f r => f.set r.m (f.getD r.m 0 + (r.e - r.b))) (List.replicate 6 0)
def RowIn (n : Nat) (r : Wr) : Prop := r.o < n ∧ r.m < 6
theorem runs_in {S : Nat → List (Int × Int)} {n : Nat} (hS : ∀ o x, x ∈ S o → 0 ≤ x.1 ∧ x.1 < 6) {q : Mq} {rows : List Wr} (h : Runs S q rows) : MqOk S n q → (∀ r ∈ q.found, RowIn n r) → ∀ r ∈ rows, RowIn n r := by
  induction h with
  | stop _ => exact fun _ h => h
  | @step q c rows hn _ ih =>
    intro ok hf
    refine ih (ok.step hS hn) fun r hr => ?_
    have hr : r ∈ q.found ++ [⟨c.2.2.1, c.2.2.2, getP q.at_ (c.2.2.1, c.2.2.2), c.2.1, c.1, c.1 + ((S c.2.2.1)[getP q.at_ (c.2.2.1, c.2.2.2)]?.getD (0, 0)).2⟩] := hr
    rcases List.mem_append.mp hr with hr | hr
    · exact hf r hr
    · rw [List.mem_singleton.mp hr]
      obtain ⟨w, x, hw, _, hxm, hxc, _⟩ := next_at hn
      obtain ⟨h1, _⟩ := ok.it _ _ _ hw hxm
      have h2 := (List.getElem?_eq_some_iff.mp hw).1
      rw [ok.w6] at h2
      rw [hxc] at h1
      exact ⟨h1, h2⟩
theorem worked_in {rs : List PRow} {os : List Or} (G : GoodBook rs) {rows : List Wr} (h : Runs (stOf rs os) (startQ (stOf rs os) os) rows) : ∀ r ∈ rows, RowIn os.length r :=
  runs_in (stOf_good G os).1 h (startQ_ok (stOf_good G os).1 os).1 fun r hr => nomatch hr
theorem endsOf_len (os : List Or) (rows : List Wr) : (endsOf os rows).length = os.length := by
  unfold endsOf
  have : ∀ (l : List Wr) (f : List Int), (l.foldl (fun f r => f.set r.o (max (f.getD r.o 0) r.e)) f).length = f.length := by
    intro l
    induction l with
    | nil => intro f; rfl
    | cons a l ih => intro f; rw [List.foldl_cons, ih, List.length_set]
  rw [this, List.length_map]
theorem usedOf_len (rows : List Wr) : (usedOf rows).length = 6 := by
  unfold usedOf
  have : ∀ (l : List Wr) (f : List Int), (l.foldl (fun f r => f.set r.m (f.getD r.m 0 + (r.e - r.b))) f).length = f.length := by
    intro l
    induction l with
    | nil => intro f; rfl
    | cons a l ih => intro f; rw [List.foldl_cons, ih, List.length_set]
  rw [this]
  rfl
theorem foldl_take {α β : Type} (f : β → α → β) (b : β) {l : List α} {i : Nat} {x : α} (h : l[i]? = some x) : (l.take (i + 1)).foldl f b = f ((l.take i).foldl f b) x := by
  rw [List.take_add_one, h, List.foldl_append]
  rfl
theorem set_ints (l : List Int) (i : Nat) (x : Int) : (l.map V.int).set i (.int x) = (l.set i x).map V.int := List.map_set.symm
theorem getD_ints {l : List Int} {i : Nat} (h : i < l.length) : (l.map V.int)[i]? = some (.int (l.getD i 0)) := by
  rw [List.getElem?_map, List.getElem?_eq_getElem h, List.getD_eq_getElem?_getD, List.getElem?_eq_getElem h]
  rfl
end PM

/-! machines, plainly: pieces named otherwise, in the same turn -/
namespace PM
open PySem PySem.Spec PyProof.Rows L2 WK
abbrev Kp := Nat × Nat
def lt2 (k j : Kp) : Prop := k.1 < j.1 ∨ (k.1 = j.1 ∧ k.2 < j.2)
def mapW (φ : Kp → Kp) (x : Wt) : Wt := (x.1, φ x.2)
def mapC (φ : Kp → Kp) (c : Cd) : Cd := (c.1, c.2.1, φ c.2.2)
def mapR (φ : Kp → Kp) (r : Wr) : Wr := { r with o := (φ (r.o, r.p)).1, p := (φ (r.o, r.p)).2 }
/-- φ keeps the turn of those in D -/
def Keeps (D : Kp → Prop) (φ : Kp → Kp) : Prop := ∀ k j, D k → D j → (lt2 (φ k) (φ j) ↔ lt2 k j)
theorem Keeps.inj {D : Kp → Prop} {φ : Kp → Kp} (h : Keeps D φ) {k j : Kp} (hk : D k) (hj : D j) (e : φ k = φ j) : k = j := by
  have h1 := h k j hk hj
  have h2 := h j k hj hk
  rw [e] at h1 h2
  unfold lt2 at h1 h2
  obtain ⟨a, b⟩ := k
  obtain ⟨c, d⟩ := j
  dsimp only at h1 h2
  have e1 : a = c := by omega
  have e2 : b = d := by omega
  rw [e1, e2]
theorem ltWt_map {D : Kp → Prop} {φ : Kp → Kp} (h : Keeps D φ) {x y : Wt} (hx : D x.2) (hy : D y.2) : ltWt (mapW φ x) (mapW φ y) = ltWt x y := by
  have h1 := h x.2 y.2 hx hy
  have h2 := h y.2 x.2 hy hx
  unfold lt2 at h1 h2
  have e : ltWt (mapW φ x) (mapW φ y) = true ↔ ltWt x y = true := by
    rw [ltWt_iff, ltWt_iff]
    unfold mapW
    dsimp only
    omega
  cases ha : ltWt x y with
  | true => exact e.mpr ha
  | false => exact Bool.eq_false_iff.mpr fun z => by rw [e.mp z] at ha; cases ha
theorem ltCd_map {D : Kp → Prop} {φ : Kp → Kp} (h : Keeps D φ) {x y : Cd} (hx : D x.2.2) (hy : D y.2.2) : ltCd (mapC φ x) (mapC φ y) = ltCd x y := by
  have h1 := h x.2.2 y.2.2 hx hy
  have h2 := h y.2.2 x.2.2 hy hx
  unfold lt2 at h1 h2
  have e : ltCd (mapC φ x) (mapC φ y) = true ↔ ltCd x y = true := by
    rw [ltCd_iff, ltCd_iff]
    unfold mapC
    dsimp only
    omega
  cases ha : ltCd x y with
  | true => exact e.mpr ha
  | false => exact Bool.eq_false_iff.mpr fun z => by rw [e.mp z] at ha; cases ha
theorem minF_map {α β : Type} {lt : α → α → Bool} {lt' : β → β → Bool} (f : α → β) : ∀ (xs : List α) (x : α), (∀ a ∈ x :: xs, ∀ b ∈ x :: xs, lt' (f a) (f b) = lt a b) → minF lt' (f x) (xs.map f) = f (minF lt x xs)
  | [], _, _ => rfl
  | y :: ys, x, h => by
    show minF lt' (if lt' (f y) (f x) = true then f y else f x) (ys.map f) = f (minF lt (if lt y x = true then y else x) ys)
    rw [h y (.tail _ (.head _)) x (.head _)]
    have hsub : ∀ {z : α}, z = y ∨ z = x → ∀ a ∈ z :: ys, a ∈ x :: y :: ys := fun hz a ha => by
      rcases List.mem_cons.mp ha with rfl | ha
      · rcases hz with rfl | rfl
        · exact .tail _ (.head _)
        · exact .head _
      · exact .tail _ (.tail _ ha)
    split
    · exact minF_map f ys y fun a ha b hb => h a (hsub (.inl rfl) a ha) b (hsub (.inl rfl) b hb)
    · exact minF_map f ys x fun a ha b hb => h a (hsub (.inr rfl) a ha) b (hsub (.inr rfl) b hb)
theorem minO_map {α β : Type} {lt : α → α → Bool} {lt' : β → β → Bool} (f : α → β) (xs : List α) (h : ∀ a ∈ xs, ∀ b ∈ xs, lt' (f a) (f b) = lt a b) : minO lt' (xs.map f) = (minO lt xs).map f := by
  cases xs with
  | nil => rfl
  | cons x xs => exact congrArg some (minF_map f xs x h)
theorem erase_map {α β : Type} [BEq α] [LawfulBEq α] [BEq β] [LawfulBEq β] (f : α → β) (x : α) : ∀ (l : List α), (∀ a ∈ l, f a = f x → a = x) → (l.map f).erase (f x) = (l.erase x).map f
  | [], _ => rfl
  | a :: l, h => by
    rw [List.map_cons, List.erase_cons, List.erase_cons]
    by_cases e : a = x
    · subst e
      rw [if_pos (beq_self_eq_true _), if_pos (beq_self_eq_true _)]
    · rw [if_neg (by rw [beq_iff_eq]; exact fun z => e (h a (.head _) z)), if_neg (by rw [beq_iff_eq]; exact e)]
      rw [erase_map f x l fun b hb => h b (.tail _ hb)]
      rfl
theorem fm_congr {α β : Type} {f g : α → Option β} : ∀ {l : List α}, (∀ x ∈ l, f x = g x) → l.filterMap f = l.filterMap g
  | [], _ => rfl
  | a :: l, h => by
    rw [List.filterMap_cons, List.filterMap_cons, h a (.head _), fm_congr fun x hx => h x (.tail _ hx)]
structure Same (S S' : Nat → List (Int × Int)) (D : Kp → Prop) (φ : Kp → Kp) (q' q : Mq) : Prop where
  wait : q.wait = q'.wait.map fun w => w.map (mapW φ)
  dom : ∀ w ∈ q'.wait, ∀ x ∈ w, D x.2
  free : q.free = q'.free
  at_ : ∀ k, D k → getP q.at_ (φ k) = getP q'.at_ k
  found : q.found = q'.found.map (mapR φ)
theorem takeOut_map {D : Kp → Prop} {φ : Kp → Kp} (h : Keeps D φ) {w : List Wt} (hw : ∀ x ∈ w, D x.2) : takeOut (w.map (mapW φ)) = (takeOut w).map (mapW φ) := by
  unfold takeOut
  rw [minO_map (lt := ltWt) (mapW φ) w fun a ha b hb => ltWt_map h (hw a ha) (hw b hb)]
  cases hm : minO ltWt w with
  | none => rfl
  | some x =>
    show (w.map (mapW φ)).erase (mapW φ x) = (w.erase x).map (mapW φ)
    refine erase_map (mapW φ) x w fun a ha e => ?_
    have e1 : (mapW φ a).1 = (mapW φ x).1 := congrArg Prod.fst e
    have e2 : (mapW φ a).2 = (mapW φ x).2 := congrArg Prod.snd e
    have e3 := h.inj (hw a ha) (hw x (minO_mem hm)) e2
    exact Prod.ext e1 e3
section
variable {S S' : Nat → List (Int × Int)} {D : Kp → Prop} {φ : Kp → Kp} {q' q : Mq}
theorem Same.next (h : Same S S' D φ q' q) (hk : Keeps D φ) : q.next = q'.next.map (mapC φ) := by
  have hc : q.cands = q'.cands.map (mapC φ) := by
    unfold Mq.cands
    rw [h.wait, h.free, List.zipIdx_map, List.filterMap_map, List.map_filterMap]
    refine fm_congr fun x hx => ?_
    obtain ⟨w, m⟩ := x
    have hw := List.mem_zipIdx_iff_getElem?.mp hx
    show candOf q'.free m (w.map (mapW φ)) = (candOf q'.free m w).map (mapC φ)
    unfold candOf
    rw [minO_map (lt := ltWt) (mapW φ) w fun a ha b hb => ltWt_map hk (h.dom w (List.mem_of_getElem? hw) a ha) (h.dom w (List.mem_of_getElem? hw) b hb)]
    cases minO ltWt w <;> rfl
  unfold Mq.next
  rw [hc]
  have hd : ∀ c ∈ q'.cands, D c.2.2 := fun c hc => by
    unfold Mq.cands at hc
    obtain ⟨⟨w, m⟩, hw, hc⟩ := List.mem_filterMap.mp hc
    have hw := List.mem_zipIdx_iff_getElem?.mp hw
    unfold candOf at hc
    obtain ⟨x, hx, rfl⟩ := Option.map_eq_some_iff.mp hc
    exact h.dom w (List.mem_of_getElem? hw) x (minO_mem hx)
  exact minO_map (lt := ltCd) (mapC φ) _ fun a ha b hb => ltCd_map hk (hd a ha) (hd b hb)
theorem getD_map2 (l : List (List Wt)) (f : Wt → Wt) (m : Nat) : (l.map fun w => w.map f).getD m [] = (l.getD m []).map f := by
  rw [List.getD_eq_getElem?_getD, List.getD_eq_getElem?_getD, List.getElem?_map]
  cases l[m]? <;> rfl
theorem Same.step (h : Same S S' D φ q' q) (hk : Keeps D φ) (hSS : ∀ k, D k → S' k.1 = S (φ k).1) {c : Cd} (hc : q'.next = some c) : Same S S' D φ (q'.step S' c) (q.step S (mapC φ c)) := by
  obtain ⟨b, m, o, p⟩ := c
  obtain ⟨w, x, hw, hx, hxm, hxc, _⟩ := next_at hc
  dsimp only at hw hxc
  have hD : D (o, p) := by
    have := h.dom w (List.mem_of_getElem? hw) x hxm
    rw [hxc] at this
    exact this
  have hs : getP q.at_ (φ (o, p)) = getP q'.at_ (o, p) := h.at_ _ hD
  have hS1 : S (φ (o, p)).1 = S' o := (hSS (o, p) hD).symm
  have hwt : takeOut ((q.wait).getD m []) = (takeOut (q'.wait.getD m [])).map (mapW φ) := by
    rw [h.wait, getD_map2]
    refine takeOut_map hk fun y hy => ?_
    rw [List.getD_eq_getElem?_getD, hw] at hy
    exact h.dom w (List.mem_of_getElem? hw) y hy
  have hdt : ∀ y ∈ takeOut (q'.wait.getD m []), D y.2 := fun y hy => by
    have hg : q'.wait.getD m [] = w := by rw [List.getD_eq_getElem?_getD, hw]; rfl
    rw [hg, takeOut_eq hx] at hy
    exact h.dom w (List.mem_of_getElem? hw) y (List.mem_of_mem_erase hy)
  have hd1 : ∀ u ∈ q'.wait.set m (takeOut (q'.wait.getD m [])), ∀ y ∈ u, D y.2 := fun u hu y hy => by
    rcases List.mem_or_eq_of_mem_set hu with hu | rfl
    · exact h.dom u hu y hy
    · exact hdt y hy
  have hw1 : q.wait.set m (takeOut (q.wait.getD m [])) = (q'.wait.set m (takeOut (q'.wait.getD m []))).map fun w => w.map (mapW φ) := by
    rw [hwt, h.wait, List.map_set]
  refine ⟨?_, ?_, ?_, fun k hk2 => ?_, ?_⟩
  · show (match (S (φ (o, p)).1)[getP q.at_ (φ (o, p)) + 1]? with
      | some y => (q.wait.set m (takeOut (q.wait.getD m []))).set y.1.toNat ((q.wait.set m (takeOut (q.wait.getD m []))).getD y.1.toNat [] ++ [(b + ((S (φ (o, p)).1)[getP q.at_ (φ (o, p))]?.getD (0, 0)).2, φ (o, p))])
      | none => q.wait.set m (takeOut (q.wait.getD m []))) = List.map (fun w => w.map (mapW φ)) (match (S' o)[getP q'.at_ (o, p) + 1]? with
      | some y => (q'.wait.set m (takeOut (q'.wait.getD m []))).set y.1.toNat ((q'.wait.set m (takeOut (q'.wait.getD m []))).getD y.1.toNat [] ++ [(b + ((S' o)[getP q'.at_ (o, p)]?.getD (0, 0)).2, (o, p))])
      | none => q'.wait.set m (takeOut (q'.wait.getD m [])))
    rw [hs, hS1, hw1]
    generalize q'.wait.set m (takeOut (q'.wait.getD m [])) = T
    cases (S' o)[getP q'.at_ (o, p) + 1]? with
    | none => rfl
    | some y =>
      dsimp only
      rw [List.map_set, getD_map2, List.map_append]
      rfl
  · intro u hu y hy
    have hu : u ∈ (match (S' o)[getP q'.at_ (o, p) + 1]? with
      | some y => (q'.wait.set m (takeOut (q'.wait.getD m []))).set y.1.toNat ((q'.wait.set m (takeOut (q'.wait.getD m []))).getD y.1.toNat [] ++ [(b + ((S' o)[getP q'.at_ (o, p)]?.getD (0, 0)).2, (o, p))])
      | none => q'.wait.set m (takeOut (q'.wait.getD m []))) := hu
    cases hz : (S' o)[getP q'.at_ (o, p) + 1]? with
    | none => rw [hz] at hu; exact hd1 u hu y hy
    | some z =>
      rw [hz] at hu
      dsimp only at hu
      rcases List.mem_or_eq_of_mem_set hu with hu | rfl
      · exact hd1 u hu y hy
      · rcases List.mem_append.mp hy with hy | hy
        · rw [List.getD_eq_getElem?_getD] at hy
          cases hv : (q'.wait.set m (takeOut (q'.wait.getD m [])))[z.1.toNat]? with
          | none => rw [hv] at hy; cases hy
          | some v => rw [hv] at hy; exact hd1 v (List.mem_of_getElem? hv) y hy
        · rw [List.mem_singleton.mp hy]
          exact hD
  · show q.free.set m (b + ((S (φ (o, p)).1)[getP q.at_ (φ (o, p))]?.getD (0, 0)).2) = q'.free.set m (b + ((S' o)[getP q'.at_ (o, p)]?.getD (0, 0)).2)
    rw [h.free, hs, hS1]
  · show getP (putP q.at_ (φ (o, p)) (getP q.at_ (φ (o, p)) + 1)) (φ k) = getP (putP q'.at_ (o, p) (getP q'.at_ (o, p) + 1)) k
    rw [getP_putP, getP_putP, hs]
    by_cases e : k = (o, p)
    · subst e
      rw [if_pos rfl, if_pos rfl]
    · rw [if_neg e, if_neg (fun z => e (hk.inj hk2 hD z))]
      exact h.at_ k hk2
  · show q.found ++ [(⟨(φ (o, p)).1, (φ (o, p)).2, getP q.at_ (φ (o, p)), m, b, b + ((S (φ (o, p)).1)[getP q.at_ (φ (o, p))]?.getD (0, 0)).2⟩ : Wr)] = (q'.found ++ [(⟨o, p, getP q'.at_ (o, p), m, b, b + ((S' o)[getP q'.at_ (o, p)]?.getD (0, 0)).2⟩ : Wr)]).map (mapR φ)
    rw [h.found, hs, hS1, List.map_append]
    rfl
theorem Same.runs {rows : List Wr} (hr : Runs S' q' rows) : ∀ {q : Mq}, Same S S' D φ q' q → Keeps D φ → (∀ k, D k → S' k.1 = S (φ k).1) → Runs S q (rows.map (mapR φ)) := by
  induction hr with
  | stop hn =>
    intro q h hk hSS
    rw [← h.found]
    refine .stop ?_
    rw [h.next hk, hn]
    rfl
  | step hn _ ih =>
    intro q h hk hSS
    refine .step (c := mapC φ _) ?_ (ih (h.step hk hSS hn) hk hSS)
    rw [h.next hk, hn]
    rfl
end
end PM

/-! machines, plainly: all pieces, one behind the other -/
namespace PM
open PySem PySem.Spec PyProof.Rows L2 WK
abbrev Px := Int × Kp × Str
def pcsG (x : Or × Nat) : List Px := (List.range x.1.2.1.toNat).map fun p => (x.1.2.2, (x.2, p), x.1.1)
def pcsT (os : List Or) (i : Nat) : List Px := (os.zipIdx.take i).flatMap pcsG
def allP (os : List Or) : List Px := os.zipIdx.flatMap pcsG
theorem pcsT_succ {os : List Or} {i : Nat} {y : Or} (h : os[i]? = some y) : pcsT os (i + 1) = pcsT os i ++ pcsG (y, i) := by
  unfold pcsT
  have hz : os.zipIdx[i]? = some (y, i) := by rw [List.getElem?_zipIdx, h]; simp
  rw [List.take_add_one, hz, List.flatMap_append]
  show _ ++ List.flatMap pcsG [(y, i)] = _
  rw [List.flatMap_singleton]
theorem pcsT_all (os : List Or) : pcsT os os.length = allP os := by
  unfold pcsT allP
  rw [List.take_of_length_le (by rw [List.length_zipIdx]; exact Nat.le_refl _)]
def PxIn (os : List Or) (x : Px) : Prop := ∃ y, os[x.2.1.1]? = some y ∧ y.1 = x.2.2 ∧ y.2.2 = x.1 ∧ x.2.1.2 < y.2.1.toNat
theorem pcsT_in (os : List Or) : ∀ i, i ≤ os.length → (∀ x ∈ pcsT os i, x.2.1.1 < i ∧ PxIn os x) ∧ (pcsT os i).Pairwise fun a b => lt2 a.2.1 b.2.1
  | 0, _ => ⟨(fun _ h => nomatch h), List.Pairwise.nil⟩
  | i + 1, hi => by
    obtain ⟨h1, h2⟩ := pcsT_in os i (by omega)
    have hg : os[i]? = some os[i] := List.getElem?_eq_getElem (by omega)
    generalize os[i] = y at hg
    rw [pcsT_succ hg]
    have h3 : ∀ x ∈ pcsG (y, i), x.2.1.1 = i ∧ PxIn os x := fun x hx => by
      obtain ⟨p, hp, rfl⟩ := List.mem_map.mp hx
      exact ⟨rfl, y, hg, rfl, rfl, List.mem_range.mp hp⟩
    refine ⟨fun x hx => ?_, ?_⟩
    · rcases List.mem_append.mp hx with hx | hx
      · exact ⟨Nat.lt_succ_of_lt (h1 x hx).1, (h1 x hx).2⟩
      · obtain ⟨a, b⟩ := h3 x hx
        exact ⟨by omega, b⟩
    · rw [List.pairwise_append]
      refine ⟨h2, ?_, fun a ha b hb => .inl ?_⟩
      · unfold pcsG
        rw [List.pairwise_map]
        exact List.pairwise_lt_range.imp fun h => .inr ⟨rfl, h⟩
      · have := (h1 a ha).1
        have := (h3 b hb).1
        omega
theorem allP_in {os : List Or} {x : Px} (h : x ∈ allP os) : PxIn os x := by
  rw [← pcsT_all] at h
  exact ((pcsT_in os os.length (Nat.le_refl _)).1 x h).2
def stepsN (rs : List PRow) (n : Str) : List (Int × Int) := match PM.rowOf rs n with
  | some r => r.steps
  | none => []
theorem stOf_N {rs : List PRow} {os : List Or} {o : Nat} {y : Or} (h : os[o]? = some y) : stOf rs os o = stepsN rs y.1 := by
  unfold stOf stepsN
  rw [h]
  all_goals rfl
def fstM (rs : List PRow) (n : Str) : Option Nat := (stepsN rs n)[0]?.map fun x => x.1.toNat
def waitAt (rs : List PRow) (l : List Px) (m : Nat) : List Wt := (l.filter fun x => decide (fstM rs x.2.2 = some m)).map fun x => (x.1, x.2.1)
theorem start_at {rs : List PRow} (G : GoodBook rs) (os : List Or) : ∀ i, i ≤ os.length → ∀ m < 6, ((os.zipIdx.take i).foldl (fun w x => addOr (stOf rs os) w x.1 x.2) (List.replicate 6 [])).getD m [] = waitAt rs (pcsT os i) m
  | 0, _, m, hm => by
    show (List.replicate 6 ([] : List Wt)).getD m [] = []
    rw [List.getD_eq_getElem?_getD, List.getElem?_replicate]
    split <;> rfl
  | i + 1, hi, m, hm => by
    have ih := start_at G os i (by omega) m hm
    have hS := (stOf_good G os).1
    have h6 := (qsOk_take hS os i (by omega)).w6
    have hg : os[i]? = some os[i] := List.getElem?_eq_getElem (by omega)
    generalize os[i] = y at hg
    have hz : os.zipIdx[i]? = some (y, i) := by rw [List.getElem?_zipIdx, hg]; simp
    rw [foldl_take _ _ hz, pcsT_succ hg]
    generalize (os.zipIdx.take i).foldl (fun w x => addOr (stOf rs os) w x.1 x.2) (List.replicate 6 []) = W at ih h6 ⊢
    have hsN := stOf_N (rs := rs) hg
    have hw : waitAt rs (pcsT os i ++ pcsG (y, i)) m = waitAt rs (pcsT os i) m ++ waitAt rs (pcsG (y, i)) m := by
      unfold waitAt
      rw [List.filter_append, List.map_append]
    have hgw : waitAt rs (pcsG (y, i)) m = if fstM rs y.1 = some m then (List.range y.2.1.toNat).map fun p => ((y.2.2, i, p) : Wt) else [] := by
      unfold waitAt pcsG
      rw [List.filter_map, List.map_map]
      by_cases h : fstM rs y.1 = some m
      · rw [if_pos h, List.filter_eq_self.mpr fun p _ => by show decide (fstM rs y.1 = some m) = true; exact decide_eq_true h]
        rfl
      · rw [if_neg h, List.filter_eq_nil_iff.mpr fun p _ => by show ¬ decide (fstM rs y.1 = some m) = true; rw [decide_eq_false h]; decide]
        rfl
    rw [hw, hgw]
    cases hs : (stOf rs os i)[0]? with
    | none =>
      have hf : fstM rs y.1 = none := by unfold fstM; rw [← hsN, hs]; rfl
      rw [addOr_none (x := (y, i).1) hs, hf, if_neg (by simp), List.append_nil]
      exact ih
    | some z =>
      have hf : fstM rs y.1 = some z.1.toNat := by unfold fstM; rw [← hsN, hs]; rfl
      have hzb := hS i z (List.mem_of_getElem? hs)
      rw [addOr_some (x := (y, i).1) hs, hf, List.getD_eq_getElem?_getD, List.getElem?_set]
      by_cases hm2 : z.1.toNat = m
      · subst hm2
        rw [if_pos rfl, if_pos (by omega), if_pos rfl]
        show W.getD z.1.toNat [] ++ _ = _
        rw [ih]
      · rw [if_neg hm2, if_neg (fun e => hm2 (Option.some.inj e)), List.append_nil, ← List.getD_eq_getElem?_getD]
        exact ih
theorem startQ_at {rs : List PRow} (G : GoodBook rs) (os : List Or) {m : Nat} (hm : m < 6) : (startQ (stOf rs os) os).wait.getD m [] = waitAt rs (allP os) m := by
  have h := start_at G os os.length (Nat.le_refl _) m hm
  rw [pcsT_all] at h
  have e1 : os.zipIdx.take os.length = os.zipIdx := List.take_of_length_le (by rw [List.length_zipIdx]; exact Nat.le_refl _)
  rw [e1] at h
  exact h
def mapX (φ : Kp → Kp) (x : Px) : Px := (x.1, φ x.2.1, x.2.2)
end PM

/-! machines, plainly: how many minutes each works in all -/
namespace PM
open PySem PySem.Spec PyProof.Rows L2 WK
/-- minutes of some steps on a machine -/
def minOn (m : Nat) (l : List (Int × Int)) : Int := (l.map fun y => if y.1.toNat = m then y.2 else 0).sum
/-- what is still to be worked on a machine -/
def Mq.todo (S : Nat → List (Int × Int)) (m : Nat) (q : Mq) : Int := (q.wait.flatten.map fun x => minOn m ((S x.2.1).drop (getP q.at_ x.2))).sum
theorem sum_perm {l1 l2 : List Int} (h : l1.Perm l2) : l1.sum = l2.sum := by
  induction h with
  | nil => rfl
  | cons x _ ih => rw [List.sum_cons, List.sum_cons, ih]
  | swap x y l => rw [List.sum_cons, List.sum_cons, List.sum_cons, List.sum_cons]; omega
  | trans _ _ ih1 ih2 => exact ih1.trans ih2
def usedF (f : List Int) (rows : List Wr) : List Int := rows.foldl (fun f r => f.set r.m (f.getD r.m 0 + (r.e - r.b))) f
theorem getD_set (f : List Int) {i m : Nat} (x : Int) (h : i < f.length) : (f.set i x).getD m 0 = if i = m then x else f.getD m 0 := by
  rw [List.getD_eq_getElem?_getD, List.getElem?_set]
  by_cases e : i = m
  · rw [if_pos e, if_pos e, if_pos h]
    rfl
  · rw [if_neg e, if_neg e, ← List.getD_eq_getElem?_getD]
/-- as the law adds it up -/
def addSt (k : Int) (f : List Int) (y : Int × Int) : List Int := f.set y.1.toNat (f.getD y.1.toNat 0 + k * y.2)
def totOf (rs : List PRow) (os : List Or) : List Int := os.foldl (fun f x => (stepsN rs x.1).foldl (addSt x.2.1) f) (List.replicate 6 0)
theorem stepsN_good {rs : List PRow} (G : GoodBook rs) (n : Str) : (∀ x ∈ stepsN rs n, 0 ≤ x.1 ∧ x.1 < 6) := by
  unfold stepsN
  cases h : PM.rowOf rs n with
  | none => exact fun x hx => nomatch hx
  | some r =>
    intro x hx
    obtain ⟨i, hi⟩ := List.getElem?_of_mem (rowOf_mem h).1
    exact ((G.row i r hi).steps x hx).1
theorem const_sum (k : Int) : ∀ n : Nat, ((List.range n).map fun _ => k).sum = (n : Int) * k
  | 0 => by simp
  | n + 1 => by
    rw [List.range_succ, List.map_append, List.sum_append, const_sum k n]
    show _ + (k + 0) = _
    rw [Int.natCast_succ, Int.add_mul]
    omega
theorem flatMap_sum {α β : Type} (g : α → List β) (f : β → Int) : ∀ l : List α, ((l.flatMap g).map f).sum = (l.map fun x => ((g x).map f).sum).sum
  | [] => rfl
  | a :: l => by rw [List.flatMap_cons, List.map_append, List.sum_append, List.map_cons, List.sum_cons, flatMap_sum g f l]
theorem map_zipIdx_fst {α β : Type} (f : α → β) (l : List α) : (l.zipIdx.map fun x => f x.1) = l.map f := by
  rw [show (fun x : α × Nat => f x.1) = f ∘ Prod.fst from rfl, ← List.map_map, List.zipIdx_map_fst]
end PM

/-! machines, plainly: how long the rows are, whose they are -/
namespace PM
open PySem PySem.Spec PyProof.Rows L2 WK
theorem runs_len {S : Nat → List (Int × Int)} {n : Nat} (hS : ∀ o x, x ∈ S o → 0 ≤ x.1 ∧ x.1 < 6) {q : Mq} {rows : List Wr} (h : Runs S q rows) : MqOk S n q → rows.length ≤ q.found.length + q.left S := by
  induction h with
  | stop _ => intro _; exact Nat.le_add_right _ _
  | @step q c rows hn _ ih =>
    intro ok
    have h1 := ih (ok.step hS hn)
    have h2 := step_left ok hS hn
    have h3 : (q.step S c).found.length = q.found.length + 1 := by
      show (q.found ++ [_]).length = _
      rw [List.length_append]
      rfl
    omega
theorem manyOf_most {k : Nat} : ∀ {os : List Or}, (∀ x ∈ os, x.2.1 ≤ (k : Int)) → manyOf os ≤ k * os.length
  | [], _ => Nat.zero_le _
  | x :: os, h => by
    have ih := manyOf_most (os := os) fun y hy => h y (.tail _ hy)
    have hx := h x (.head _)
    unfold manyOf at ih ⊢
    rw [List.map_cons, List.sum_cons, List.length_cons, Nat.mul_add]
    omega
theorem worked_len {rs : List PRow} {os : List Or} (G : GoodBook rs) {k : Nat} (hm : ∀ x ∈ os, x.2.1 ≤ (k : Int)) {rows : List Wr} (h : Runs (stOf rs os) (startQ (stOf rs os) os) rows) : rows.length ≤ 5 * (k * os.length) := by
  obtain ⟨hS, h5⟩ := stOf_good G os
  obtain ⟨ok, hf⟩ := startQ_ok hS os
  have h1 := runs_len hS h ok
  have h2 := left_le h5 (startQ (stOf rs os) os)
  have h3 := manyOf_most hm
  have h4 : (startQ (stOf rs os) os).found.length = 0 := rfl
  omega
theorem rowOf_ex {rs : List PRow} {j : Nat} {r : PRow} (h : rs[j]? = some r) : ∃ q, PM.rowOf rs r.name = some q := by
  cases e : PM.rowOf rs r.name with
  | some q => exact ⟨q, rfl⟩
  | none =>
    unfold PM.rowOf at e
    rw [List.find?_eq_none] at e
    exact absurd (by simp) (e r (List.mem_of_getElem? h))
end PM
namespace PM
open PySem PySem.Spec PyProof.Rows L2 WK
end PM

/-! machines, plainly: each step in turn, on its machine, who came first first -/
namespace PM
open PySem PySem.Spec PyProof.Rows L2 WK
def getG {α : Type} (l : List (Kp × α)) (k : Kp) : Option α := (l.find? fun x => decide (x.1 = k)).map (·.2)
def putG {α : Type} (l : List (Kp × α)) (k : Kp) (v : α) : List (Kp × α) := if (l.any fun x => decide (x.1 = k)) = true then l.map (fun x => if x.1 = k then (x.1, v) else x) else l ++ [(k, v)]
theorem getG_putG {α : Type} (l : List (Kp × α)) (k j : Kp) (v : α) : getG (putG l k v) j = if j = k then some v else getG l j := by
  unfold getG putG
  by_cases h : (l.any fun x => decide (x.1 = k)) = true
  · rw [if_pos h]
    have go : ∀ l : List (Kp × α), (l.any fun x => decide (x.1 = k)) = true ∨ j ≠ k → ((l.map fun x => if x.1 = k then (x.1, v) else x).find? fun x => decide (x.1 = j)).map (·.2) = if j = k then some v else (l.find? fun x => decide (x.1 = j)).map (·.2) := by
      intro l
      induction l with
      | nil =>
        intro h
        rcases h with h | h
        · cases h
        · rw [if_neg h]
          rfl
      | cons a l ih =>
        intro h
        rw [List.map_cons]
        by_cases ha : a.1 = k
        · rw [if_pos ha]
          by_cases hj : j = k
          · rw [if_pos hj, List.find?_cons_of_pos (by show decide (a.1 = j) = true; rw [ha, hj]; exact decide_eq_true rfl)]
            rfl
          · rw [if_neg hj, List.find?_cons_of_neg (by show ¬ decide (a.1 = j) = true; rw [ha]; simpa using fun z => hj z.symm), List.find?_cons_of_neg (by rw [ha]; simpa using fun z => hj z.symm), ih (.inr hj), if_neg hj]
        · rw [if_neg ha]
          by_cases hj : a.1 = j
          · have hjk : j ≠ k := fun z => ha (hj.trans z)
            rw [if_neg hjk, List.find?_cons_of_pos (by simpa using hj), List.find?_cons_of_pos (by simpa using hj)]
          · rw [List.find?_cons_of_neg (by simpa using hj), List.find?_cons_of_neg (by simpa using hj)]
            refine ih ?_
            rcases h with h | h
            · rw [List.any_cons, decide_eq_false ha, Bool.false_or] at h
              exact .inl h
            · exact .inr h
    exact go l (.inl h)
  · rw [if_neg h, List.find?_append]
    by_cases hj : j = k
    · subst hj
      rw [if_pos rfl]
      have : (l.find? fun x => decide (x.1 = j)) = none := by
        rw [List.find?_eq_none]
        intro x hx hc
        exact h (List.any_eq_true.mpr ⟨x, hx, hc⟩)
      rw [this]
      simp
    · rw [if_neg hj]
      cases hf : l.find? fun x => decide (x.1 = j) with
      | some y => rfl
      | none =>
        show ((([(k, v)] : List (Kp × α)).find? fun x => decide (x.1 = j)).map (·.2)) = _
        rw [List.find?_cons_of_neg (by simpa using fun z => hj z.symm)]
        rfl
theorem getG_none {α : Type} {l : List (Kp × α)} {k : Kp} : getG l k = none ↔ (l.any fun x => decide (x.1 = k)) = false := by
  unfold getG
  rw [Option.map_eq_none_iff, List.find?_eq_none, List.any_eq_false]
theorem putG_len {α : Type} (l : List (Kp × α)) (k : Kp) (v : α) : (putG l k v).length = l.length + if (getG l k).isNone then 1 else 0 := by
  unfold putG
  cases h : (l.any fun x => decide (x.1 = k)) with
  | true =>
    rw [if_pos rfl, List.length_map]
    have : getG l k ≠ none := fun z => by rw [getG_none.mp z] at h; cases h
    cases hg : getG l k with
    | none => exact absurd hg this
    | some _ => rfl
  | false =>
    rw [if_neg (by decide), List.length_append, getG_none.mpr h]
    rfl
abbrev Cm := List (Kp × (Nat × Int))
def cameOf (rows : List Wr) : Cm := rows.foldl (fun l r => putG l (r.o, r.p) (r.s + 1, r.e)) []
theorem cameOf_snoc (rows : List Wr) (r : Wr) : cameOf (rows ++ [r]) = putG (cameOf rows) (r.o, r.p) (r.s + 1, r.e) := by
  unfold cameOf
  rw [List.foldl_append]
  rfl
/-- when a piece came to its next step -/
def arr (mn : Nat → Int) (rows : List Wr) (k : Kp) : Int := ((getG (cameOf rows) k).map (·.2)).getD (mn k.1)
def stp (rows : List Wr) (k : Kp) : Nat := ((getG (cameOf rows) k).map (·.1)).getD 0
def lastE (rows : List Wr) (m : Nat) : Int := ((rows.filter fun x => decide (x.m = m)).getLast?.map (·.e)).getD 0
def wtOf (mn : Nat → Int) (rows : List Wr) (r : Wr) : Wt := (arr mn rows (r.o, r.p), r.o, r.p)
structure RowAll (S : Nat → List (Int × Int)) (mn : Nat → Int) (rows : List Wr) (r : Wr) : Prop where
  s : stp rows (r.o, r.p) = r.s
  st : (S r.o)[r.s]? = some ((r.m : Int), r.e - r.b)
  b : r.b = max (lastE rows r.m) (arr mn rows (r.o, r.p))
theorem idx_snoc {α : Type} {l : List α} {r a : α} {i : Nat} (h : (l ++ [r])[i]? = some a) : (i < l.length ∧ l[i]? = some a) ∨ (i = l.length ∧ a = r) := by
  by_cases hi : i < l.length
  · rw [List.getElem?_append_left hi] at h
    exact .inl ⟨hi, h⟩
  · rw [List.getElem?_append_right (by omega)] at h
    have := (List.getElem?_eq_some_iff.mp h).1
    rw [List.length_singleton] at this
    have e : i = l.length := by omega
    subst e
    rw [Nat.sub_self] at h
    exact .inr ⟨rfl, (Option.some.inj h).symm⟩
theorem take_snoc {α : Type} {l : List α} {r : α} {i : Nat} (h : i ≤ l.length) : (l ++ [r]).take i = l.take i := List.take_append_of_le_length h
theorem arr_snoc (mn : Nat → Int) (rows : List Wr) (r : Wr) (k : Kp) : arr mn (rows ++ [r]) k = if k = (r.o, r.p) then r.e else arr mn rows k := by
  unfold arr
  rw [cameOf_snoc, getG_putG]
  split <;> rfl
theorem stp_snoc (rows : List Wr) (r : Wr) (k : Kp) : stp (rows ++ [r]) k = if k = (r.o, r.p) then r.s + 1 else stp rows k := by
  unfold stp
  rw [cameOf_snoc, getG_putG]
  split <;> rfl
theorem lastE_snoc (rows : List Wr) (r : Wr) (m : Nat) : lastE (rows ++ [r]) m = if r.m = m then r.e else lastE rows m := by
  unfold lastE
  rw [List.filter_append]
  by_cases h : r.m = m
  · rw [if_pos h, List.filter_cons_of_pos (by exact decide_eq_true h), List.filter_nil, List.getLast?_append]
    rfl
  · rw [if_neg h, List.filter_cons_of_neg (by simpa using h), List.filter_nil, List.append_nil]
/-- what stays true while it goes on -/
structure Inv24 (S : Nat → List (Int × Int)) (mn : Nat → Int) (T : Nat) (q : Mq) : Prop where
  all : ∀ i r, q.found[i]? = some r → RowAll S mn (q.found.take i) r
  srt : ∀ i j a b, q.found[i]? = some a → q.found[j]? = some b → i < j → a.m = b.m → ltWt (wtOf mn (q.found.take j) b) (wtOf mn (q.found.take i) a) = false
  w1 : ∀ w ∈ q.wait, ∀ x ∈ w, x.1 = arr mn q.found x.2
  w2 : ∀ k, getP q.at_ k = stp q.found k
  w3 : ∀ m < 6, q.free.getD m 0 = lastE q.found m
  w4 : ∀ i a, q.found[i]? = some a → ∀ w, q.wait[a.m]? = some w → ∀ x ∈ w, ltWt x (wtOf mn (q.found.take i) a) = false
  w5 : ∀ a ∈ q.found, ∀ m w, q.wait[m]? = some w → ∀ x ∈ w, a.b ≤ max x.1 (q.free.getD m 0)
  w8 : ∀ k v, getG (cameOf q.found) k = some v → v.1 = (S k.1).length ∨ ∃ x ∈ q.wait.flatten, x.2 = k
  w9 : (cameOf q.found).length + (q.wait.flatten.filter fun x => (getG (cameOf q.found) x.2).isNone).length = T
end PM
namespace PM
open PySem PySem.Spec PyProof.Rows L2 WK
/-- where a piece waits behind a step, and since when -/
theorem step_at2 {S : Nat → List (Int × Int)} {q : Mq} {c : Cd} {w : List Wt} {x : Wt} (hw : q.wait[c.2.1]? = some w) (hx : minO ltWt w = some x) {m : Nat} {u : List Wt} {y : Wt} (hu : (q.step S c).wait[m]? = some u) (hy : y ∈ u) :
    (∃ v, q.wait[m]? = some v ∧ y ∈ v ∧ (m = c.2.1 → y ∈ v.erase x)) ∨ (∃ z, (S c.2.2.1)[getP q.at_ c.2.2 + 1]? = some z ∧ m = z.1.toNat ∧ y = (c.1 + ((S c.2.2.1)[getP q.at_ c.2.2]?.getD (0, 0)).2, c.2.2)) := by
  have hg : q.wait.getD c.2.1 [] = w := by rw [List.getD_eq_getElem?_getD, hw]; rfl
  have old : ∀ {k : Nat} {v : List Wt}, (q.wait.set c.2.1 (w.erase x))[k]? = some v → ∀ y ∈ v, ∃ v', q.wait[k]? = some v' ∧ y ∈ v' ∧ (k = c.2.1 → y ∈ v'.erase x) := fun {k v} hv y hy => by
    rw [List.getElem?_set] at hv
    split at hv
    · rename_i hk
      subst hk
      split at hv
      · cases hv
        exact ⟨w, hw, erase_ne hy, fun _ => hy⟩
      · cases hv
    · rename_i hk
      exact ⟨v, hv, hy, fun z => absurd z.symm hk⟩
  cases hs : (S c.2.2.1)[getP q.at_ c.2.2 + 1]? with
  | none =>
    have e : (q.step S c).wait = q.wait.set c.2.1 (takeOut (q.wait.getD c.2.1 [])) := by
      unfold Mq.step
      dsimp only
      rw [show (S c.2.2.1)[getP q.at_ (c.2.2.1, c.2.2.2) + 1]? = none from hs]
    rw [e, hg, takeOut_eq hx] at hu
    exact .inl (old hu y hy)
  | some z =>
    have e : (q.step S c).wait = (q.wait.set c.2.1 (w.erase x)).set z.1.toNat ((q.wait.set c.2.1 (w.erase x)).getD z.1.toNat [] ++ [(c.1 + ((S c.2.2.1)[getP q.at_ c.2.2]?.getD (0, 0)).2, c.2.2)]) := by
      unfold Mq.step
      dsimp only
      rw [show (S c.2.2.1)[getP q.at_ (c.2.2.1, c.2.2.2) + 1]? = some z from hs, hg, takeOut_eq hx]
    rw [e, List.getElem?_set] at hu
    split at hu
    · rename_i hk
      subst hk
      split at hu
      · cases hu
        rcases List.mem_append.mp hy with hy | hy
        · rw [List.getD_eq_getElem?_getD] at hy
          cases hv : (q.wait.set c.2.1 (w.erase x))[z.1.toNat]? with
          | none => rw [hv] at hy; cases hy
          | some v => rw [hv] at hy; exact .inl (old hv y hy)
        · rw [List.mem_singleton.mp hy]
          exact .inr ⟨z, rfl, rfl, rfl⟩
      · cases hu
    · exact .inl (old hu y hy)
/-- those that wait still are other pieces -/
theorem old_ne {S : Nat → List (Int × Int)} {n : Nat} {q : Mq} {c : Cd} (ok : MqOk S n q) {w : List Wt} {x : Wt} (hw : q.wait[c.2.1]? = some w) (hxm : x ∈ w) (hxc : x.2 = c.2.2) {m : Nat} {v : List Wt} {y : Wt} (hv : q.wait[m]? = some v) (hyv : y ∈ v) (hve : m = c.2.1 → y ∈ v.erase x) : y.2 ≠ c.2.2 := by
  intro e
  obtain ⟨rw_, q1, _⟩ := flat_set [] hw
  have pe : w.Perm (x :: w.erase x) := List.perm_cons_erase hxm
  have nd0 : ((w ++ rw_).map (·.2)).Nodup := (q1.map _).nodup_iff.mp ok.nd
  by_cases hmc : m = c.2.1
  · subst hmc
    rw [hw] at hv
    cases hv
    have hye := hve rfl
    have nd1 : ((x :: w.erase x).map (·.2)).Nodup := by
      rw [List.map_append, List.nodup_append] at nd0
      exact (pe.map _).nodup_iff.mp nd0.1
    refine (List.nodup_cons.mp nd1).1 ?_
    show x.2 ∈ _
    rw [hxc, ← e]
    exact List.mem_map.mpr ⟨y, hye, rfl⟩
  · have hyr : y ∈ rw_ := by
      have : y ∈ (q.wait.set c.2.1 []).flatten := by
        refine mem_flat (i := m) (w := v) ?_ hyv
        rw [List.getElem?_set, if_neg (fun z => hmc z.symm)]
        exact hv
      obtain ⟨rw2, q2, q3⟩ := flat_set [] hw
      have h4 : (q.wait.set c.2.1 []).flatten.Perm rw_ := by
        have h5 : (w ++ rw2).Perm (w ++ rw_) := q2.symm.trans q1
        exact q3.trans ((List.perm_append_left_iff w).mp h5)
      exact h4.mem_iff.mp this
    rw [List.map_append, List.nodup_append] at nd0
    refine nd0.2.2 x.2 (List.mem_map.mpr ⟨x, hxm, rfl⟩) y.2 (List.mem_map.mpr ⟨y, hyr, rfl⟩) ?_
    rw [hxc, e]
/-- the next begins no later than any other that waits could -/
theorem next_le {q : Mq} {c : Cd} (h : q.next = some c) {m : Nat} {w : List Wt} {y : Wt} (hw : q.wait[m]? = some w) (hy : y ∈ w) : c.1 ≤ max y.1 (q.free.getD m 0) := by
  cases hm : minO ltWt w with
  | none => rw [minO_none hm] at hy; cases hy
  | some x =>
    have h1 := minO_le ltWt_ok hm y hy
    have h2 : (max x.1 (q.free.getD m 0), m, x.2.1, x.2.2) ∈ q.cands := by
      unfold Mq.cands
      refine List.mem_filterMap.mpr ⟨(w, m), List.mem_zipIdx_iff_getElem?.mpr hw, ?_⟩
      unfold candOf
      rw [hm]
      rfl
    have h3 := minO_le ltCd_ok h _ h2
    have h4 : ¬ ltCd (max x.1 (q.free.getD m 0), m, x.2.1, x.2.2) c = true := by rw [h3]; decide
    rw [ltCd_iff] at h4
    have h5 : ¬ ltWt y x = true := by rw [h1]; decide
    rw [ltWt_iff] at h5
    dsimp only at h4
    omega
end PM

/-! machines, plainly: each step in turn (2) -/
namespace PM
open PySem PySem.Spec PyProof.Rows L2 WK
theorem filt_perm {α : Type} {p : α → Bool} {l l' : List α} (h : l.Perm l') : (l.filter p).length = (l'.filter p).length := (h.filter p).length_eq
theorem Inv24.step {S : Nat → List (Int × Int)} {mn : Nat → Int} {T n : Nat} {q : Mq} {c : Cd} (I : Inv24 S mn T q) (ok : MqOk S n q) (hS : ∀ o x, x ∈ S o → 0 ≤ x.1 ∧ x.1 < 6) (hS1 : ∀ o x, x ∈ S o → 1 ≤ x.2) (h : q.next = some c) : Inv24 S mn T (q.step S c) := by
  obtain ⟨w, x, hw, hx, hxm, hxc, hc1⟩ := next_at h
  obtain ⟨hxn, mi, hmi⟩ := ok.it _ _ _ hw hxm
  have hxmin := minO_le ltWt_ok hx
  have hcm : c.2.1 < 6 := by
    have := (List.getElem?_eq_some_iff.mp hw).1
    rw [ok.w6] at this
    exact this
  rw [hxc] at hmi
  have hmin : ((S c.2.2.1)[getP q.at_ c.2.2]?.getD (0, 0)).2 = mi := by rw [hmi]; rfl
  have hm1 : 1 ≤ mi := hS1 _ _ (List.mem_of_getElem? hmi)
  generalize hr : (⟨c.2.2.1, c.2.2.2, getP q.at_ c.2.2, c.2.1, c.1, c.1 + mi⟩ : Wr) = r
  have ro : r.o = c.2.2.1 := by rw [← hr]
  have rp : r.p = c.2.2.2 := by rw [← hr]
  have rk : (r.o, r.p) = c.2.2 := by rw [ro, rp]
  have rs_ : r.s = getP q.at_ c.2.2 := by rw [← hr]
  have rm : r.m = c.2.1 := by rw [← hr]
  have rb : r.b = c.1 := by rw [← hr]
  have re : r.e = c.1 + mi := by rw [← hr]
  have hf : (q.step S c).found = q.found ++ [r] := by
    rw [← hr, ← hmin]
    rfl
  have hfree : ∀ m, (q.step S c).free.getD m 0 = if c.2.1 = m then c.1 + mi else q.free.getD m 0 := fun m => by
    show (q.free.set c.2.1 (c.1 + ((S c.2.2.1)[getP q.at_ c.2.2]?.getD (0, 0)).2)).getD m 0 = _
    rw [hmin]
    exact getD_set _ _ (by rw [ok.f6]; exact hcm)
  have hxa : x.1 = arr mn q.found c.2.2 := by
    rw [← hxc]
    exact I.w1 w (List.mem_of_getElem? hw) x hxm
  have hxr : wtOf mn q.found r = x := by
    unfold wtOf
    rw [rk, ← hxa]
    exact Prod.ext rfl hxc.symm
  have hfr : q.free.getD c.2.1 0 = lastE q.found c.2.1 := I.w3 _ hcm
  have hxb : x.1 ≤ c.1 := by omega
  have hwle : ∀ i a, q.found[i]? = some a → (wtOf mn (q.found.take i) a).1 ≤ a.b := fun i a hi => by
    have := (I.all i a hi).b
    show arr mn (q.found.take i) (a.o, a.p) ≤ a.b
    omega
  have hale : ∀ a ∈ q.found, a.b ≤ c.1 := fun a ha => by
    have := I.w5 a ha c.2.1 w hw x hxm
    omega
  -- who waits behind it
  have hnew : ∀ {m : Nat} {u : List Wt} {y : Wt}, (q.step S c).wait[m]? = some u → y ∈ u → (∃ v, q.wait[m]? = some v ∧ y ∈ v ∧ (m = c.2.1 → y ∈ v.erase x) ∧ y.2 ≠ c.2.2) ∨ (y = (c.1 + mi, c.2.2)) := fun {m u y} hu hy => by
    rcases step_at2 hw hx hu hy with ⟨v, hv, hyv, hve⟩ | ⟨z, _, _, hy2⟩
    · exact .inl ⟨v, hv, hyv, hve, old_ne ok hw hxm hxc hv hyv hve⟩
    · rw [hmin] at hy2
      exact .inr hy2
  refine ⟨?_, ?_, ?_, ?_, ?_, ?_, ?_, ?_, ?_⟩
  · intro i a hi
    rw [hf] at hi ⊢
    rcases idx_snoc hi with ⟨hil, hi⟩ | ⟨rfl, rfl⟩
    · rw [take_snoc (by omega)]
      exact I.all i a hi
    · rw [take_snoc (Nat.le_refl _), List.take_length]
      refine ⟨?_, ?_, ?_⟩
      · rw [rk, rs_, I.w2]
      · rw [ro, rs_, rm, hmi, re, rb]
        congr 2
        omega
      · rw [rb, rm, rk, ← hxa, ← hfr]
        omega
  · intro i j a b hi hj hij hm
    rw [hf] at hi hj ⊢
    rcases idx_snoc hj with ⟨hjl, hj⟩ | ⟨rfl, rfl⟩
    · rcases idx_snoc hi with ⟨hil, hi⟩ | ⟨rfl, rfl⟩
      · rw [take_snoc (by omega), take_snoc (by omega)]
        exact I.srt i j a b hi hj hij hm
      · omega
    · rcases idx_snoc hi with ⟨hil, hi⟩ | ⟨rfl, rfl⟩
      · rw [take_snoc (Nat.le_refl _), take_snoc (by omega), List.take_length, hxr]
        refine I.w4 i a hi w ?_ x hxm
        rw [hm, rm]
        exact hw
      · omega
  · intro u hu y hy
    obtain ⟨m, hm⟩ := List.getElem?_of_mem hu
    rw [hf, arr_snoc, rk]
    rcases hnew hm hy with ⟨v, hv, hyv, _, hne⟩ | e
    · rw [if_neg hne]
      exact I.w1 v (List.mem_of_getElem? hv) y hyv
    · rw [e, if_pos rfl, re]
  · intro k
    rw [hf, stp_snoc, rk, step_getP, rs_]
    split
    · rfl
    · exact I.w2 k
  · intro m hm
    rw [hf, lastE_snoc, hfree, rm, re]
    split
    · rfl
    · exact I.w3 m hm
  · intro i a hi u hu y hy
    rw [hf] at hi ⊢
    rcases idx_snoc hi with ⟨hil, hi⟩ | ⟨rfl, rfl⟩
    · rw [take_snoc (by omega)]
      rcases hnew hu hy with ⟨v, hv, hyv, _, _⟩ | e
      · exact I.w4 i a hi v hv y hyv
      · have h1 := hwle i a hi
        have h2 := hale a (List.mem_of_getElem? hi)
        rw [e]
        refine Bool.eq_false_iff.mpr fun z => ?_
        have h3 := (ltWt_iff _ _).mp z
        dsimp only at h3
        omega
    · rw [take_snoc (Nat.le_refl _), List.take_length, hxr]
      rcases hnew hu hy with ⟨v, hv, hyv, hve, _⟩ | e
      · rw [rm] at hv
        rw [hw] at hv
        cases hv
        exact hxmin y hyv
      · rw [e]
        refine Bool.eq_false_iff.mpr fun z => ?_
        have h3 := (ltWt_iff _ _).mp z
        dsimp only at h3
        omega
  · intro a ha m u hu y hy
    rw [hf] at ha
    have hab : a.b ≤ c.1 := by
      rcases List.mem_append.mp ha with ha | ha
      · exact hale a ha
      · rw [List.mem_singleton.mp ha, rb]
        exact Int.le_refl _
    rw [hfree]
    rcases hnew hu hy with ⟨v, hv, hyv, _, _⟩ | e
    · have := next_le h hv hyv
      split
      · omega
      · omega
    · rw [e]
      dsimp only
      split <;> omega
  · intro k v hk
    rw [hf, cameOf_snoc, getG_putG, rk] at hk
    obtain ⟨x2, r2, hx2, p1, p2⟩ := step_perm ok hS h
    by_cases e : k = c.2.2
    · subst e
      rw [if_pos rfl] at hk
      cases hk
      rcases p2 with ⟨y, hy, p⟩ | ⟨hn, p⟩
      · exact .inr ⟨_, p.symm.mem_iff.mp (.head _), rfl⟩
      · left
        show r.s + 1 = _
        rw [rs_]
        have h1 := (List.getElem?_eq_some_iff.mp hmi).1
        have h2 := List.getElem?_eq_none_iff.mp hn
        omega
    · rw [if_neg e] at hk
      rcases I.w8 k v hk with h1 | ⟨y, hy, hyk⟩
      · exact .inl h1
      · right
        have hy2 := p1.mem_iff.mp hy
        rcases List.mem_cons.mp hy2 with rfl | hy2
        · rw [hx2] at hyk
          exact absurd hyk.symm e
        · rcases p2 with ⟨z, hz, p⟩ | ⟨hn, p⟩
          · exact ⟨y, p.symm.mem_iff.mp (.tail _ hy2), hyk⟩
          · exact ⟨y, p.symm.mem_iff.mp hy2, hyk⟩
  · obtain ⟨x2, r2, hx2, p1, p2⟩ := step_perm ok hS h
    have ndr : ((x2 :: r2).map (·.2)).Nodup := (p1.map _).nodup_iff.mp ok.nd
    have hnr : c.2.2 ∉ r2.map (·.2) := by
      have h0 : x2.2 ∉ r2.map (·.2) := (List.nodup_cons.mp ndr).1
      rw [hx2] at h0
      exact h0
    have hT := I.w9
    rw [filt_perm p1] at hT
    have hke : r2.filter (fun y => (getG (cameOf (q.step S c).found) y.2).isNone) = r2.filter fun y => (getG (cameOf q.found) y.2).isNone := by
      refine List.filter_congr fun y hy => ?_
      rw [hf, cameOf_snoc, getG_putG, rk, if_neg]
      intro z
      exact hnr (z ▸ List.mem_map.mpr ⟨y, hy, rfl⟩)
    have hlen : (cameOf (q.step S c).found).length = (cameOf q.found).length + if (getG (cameOf q.found) c.2.2).isNone then 1 else 0 := by
      rw [hf, cameOf_snoc, putG_len, rk]
    have hfx : ((x2 :: r2).filter fun y => (getG (cameOf q.found) y.2).isNone).length = (if (getG (cameOf q.found) c.2.2).isNone then 1 else 0) + (r2.filter fun y => (getG (cameOf q.found) y.2).isNone).length := by
      rw [← hx2]
      cases hb : (getG (cameOf q.found) x2.2).isNone with
      | true => rw [List.filter_cons_of_pos (by exact hb), List.length_cons, if_pos rfl]; omega
      | false => rw [List.filter_cons_of_neg (by rw [hb]; decide), if_neg (by decide)]; omega
    rw [hfx] at hT
    have hend : ((q.step S c).wait.flatten.filter fun y => (getG (cameOf (q.step S c).found) y.2).isNone).length = (r2.filter fun y => (getG (cameOf q.found) y.2).isNone).length := by
      rcases p2 with ⟨y, hy, p⟩ | ⟨hn, p⟩
      · rw [filt_perm p, List.filter_cons_of_neg, hke]
        dsimp only
        rw [hf, cameOf_snoc, getG_putG, rk, if_pos rfl]
        exact Bool.false_ne_true
      · rw [filt_perm p, hke]
    rw [hlen, hend]
    omega
end PM

/-! machines, plainly: each step in turn (3) -/
namespace PM
open PySem PySem.Spec PyProof.Rows L2 WK
def minOf (os : List Or) (o : Nat) : Int := ((os[o]?).map (·.2.2)).getD 0
theorem startQ_min {rs : List PRow} (G : GoodBook rs) (os : List Or) {w : List Wt} (hw : w ∈ (startQ (stOf rs os) os).wait) (h6 : (startQ (stOf rs os) os).wait.length = 6) {x : Wt} (hx : x ∈ w) : x.1 = minOf os x.2.1 := by
  obtain ⟨m, hm⟩ := List.getElem?_of_mem hw
  have hm6 := (List.getElem?_eq_some_iff.mp hm).1
  rw [h6] at hm6
  have a2 := startQ_at G os hm6
  rw [List.getD_eq_getElem?_getD, hm] at a2
  have a2 : w = waitAt rs (allP os) m := a2
  rw [a2] at hx
  unfold waitAt at hx
  obtain ⟨y, hy, rfl⟩ := List.mem_map.mp hx
  obtain ⟨z, hz, _, hz2, _⟩ := allP_in (List.mem_filter.mp hy).1
  show y.1 = minOf os y.2.1.1
  unfold minOf
  rw [hz]
  exact hz2.symm
theorem Inv24.start {rs : List PRow} (G : GoodBook rs) (os : List Or) : Inv24 (stOf rs os) (minOf os) (startQ (stOf rs os) os).wait.flatten.length (startQ (stOf rs os) os) := by
  have ok := (startQ_ok (stOf_good G os).1 os).1
  refine ⟨fun i r h => ?_, fun i j a b h => ?_, fun w hw x hx => ?_, fun k => rfl, fun m hm => ?_, fun i a h => ?_, fun a ha => ?_, fun k v h => ?_, ?_⟩
  · exact absurd h (by show ¬ ([] : List Wr)[i]? = some r; simp)
  · exact absurd h (by show ¬ ([] : List Wr)[i]? = some a; simp)
  · exact startQ_min G os hw ok.w6 hx
  · show (List.replicate 6 (0 : Int)).getD m 0 = 0
    rw [List.getD_eq_getElem?_getD, List.getElem?_replicate]
    split <;> rfl
  · exact absurd h (by show ¬ ([] : List Wr)[i]? = some a; simp)
  · cases ha
  · cases h
  · show 0 + _ = _
    rw [Nat.zero_add]
    congr 1
    exact List.filter_eq_self.mpr fun _ _ => rfl
structure Inv24E (S : Nat → List (Int × Int)) (mn : Nat → Int) (T : Nat) (rows : List Wr) : Prop where
  all : ∀ i r, rows[i]? = some r → RowAll S mn (rows.take i) r
  srt : ∀ i j a b, rows[i]? = some a → rows[j]? = some b → i < j → a.m = b.m → ltWt (wtOf mn (rows.take j) b) (wtOf mn (rows.take i) a) = false
  full : ∀ k v, getG (cameOf rows) k = some v → v.1 = (S k.1).length
  cnt : (cameOf rows).length = T
theorem next_none {q : Mq} (h : q.next = none) : q.wait.flatten = [] := by
  have hc : q.cands = [] := minO_none h
  refine List.flatten_eq_nil_iff.mpr fun w hw => ?_
  obtain ⟨i, hi⟩ := List.getElem?_of_mem hw
  have hz : (w, i) ∈ q.wait.zipIdx := List.mem_zipIdx_iff_getElem?.mpr hi
  unfold Mq.cands at hc
  have h1 := (List.filterMap_eq_nil_iff.mp hc) (w, i) hz
  unfold candOf at h1
  exact minO_none (Option.map_eq_none_iff.mp h1)
theorem Inv24.runs {S : Nat → List (Int × Int)} {mn : Nat → Int} {T n : Nat} (hS : ∀ o x, x ∈ S o → 0 ≤ x.1 ∧ x.1 < 6) (hS1 : ∀ o x, x ∈ S o → 1 ≤ x.2) {q : Mq} {rows : List Wr} (h : Runs S q rows) : MqOk S n q → Inv24 S mn T q → Inv24E S mn T rows := by
  induction h with
  | @stop q hn =>
    intro _ I
    have hf := next_none hn
    refine ⟨I.all, I.srt, fun k v hk => ?_, ?_⟩
    · rcases I.w8 k v hk with h | ⟨x, hx, _⟩
      · exact h
      · rw [hf] at hx; cases hx
    · have := I.w9
      rw [hf] at this
      exact this
  | step hn _ ih => exact fun ok I => ih (ok.step hS hn) (I.step ok hS hS1 hn)
theorem stOf_min {rs : List PRow} (G : GoodBook rs) (os : List Or) : ∀ o x, x ∈ stOf rs os o → 1 ≤ x.2 := by
  intro o x hx
  unfold stOf at hx
  cases h : os[o]? with
  | none => rw [h] at hx; cases hx
  | some y =>
    rw [h] at hx
    dsimp only at hx
    cases hr : PM.rowOf rs y.1 with
    | none => rw [hr] at hx; cases hx
    | some r =>
      rw [hr] at hx
      obtain ⟨i, hi⟩ := List.getElem?_of_mem (rowOf_mem hr).1
      exact ((G.row i r hi).steps x hx).2.1
/-- as the law counts them -/
def cntOf (rs : List PRow) (os : List Or) : Int := (os.map fun x => x.2.1 * if (stepsN rs x.1).isEmpty then 0 else 1).sum
end PM

/-! machines, plainly: the law's own going on, minute by minute (k23) -/
namespace PM
open PySem PySem.Spec PyProof.Rows L2 WK
/-- waiting: since, order, piece, step -/
structure Lw where
  wt : List Cd
  busy : List Int
  found : List Wr
def liftW (at_ : List (Kp × Nat)) (y : Wt) : Cd := (y.1, y.2.1, y.2.2, getP at_ y.2)
def hereB (S : Nat → List (Int × Int)) (t : Int) (m : Nat) (r : Cd) : Bool := decide (r.1 ≤ t ∧ ((S r.2.1)[r.2.2.2]?.getD (0, 0)).1 = (m : Int))
def Lw.mstep (S : Nat → List (Int × Int)) (t : Int) (m : Nat) (x : Lw) : Lw :=
  if x.busy.getD m 0 ≤ t then match minO ltCd (x.wt.filter (hereB S t m)) with
    | none => x
    | some r => { wt := x.wt.erase r ++ (if r.2.2.2 + 1 < (S r.2.1).length then [(t + ((S r.2.1)[r.2.2.2]?.getD (0, 0)).2, r.2.1, r.2.2.1, r.2.2.2 + 1)] else []), busy := x.busy.set m (t + ((S r.2.1)[r.2.2.2]?.getD (0, 0)).2), found := x.found ++ [⟨r.2.1, r.2.2.1, r.2.2.2, m, t, t + ((S r.2.1)[r.2.2.2]?.getD (0, 0)).2⟩] }
  else x
theorem mstep_busy {S : Nat → List (Int × Int)} {t : Int} {m : Nat} {x : Lw} (h : ¬ x.busy.getD m 0 ≤ t) : x.mstep S t m = x := by
  unfold Lw.mstep
  rw [if_neg h]
theorem mstep_none {S : Nat → List (Int × Int)} {t : Int} {m : Nat} {x : Lw} (h : minO ltCd (x.wt.filter (hereB S t m)) = none) : x.mstep S t m = x := by
  unfold Lw.mstep
  split
  · rw [h]
  · rfl
theorem mstep_some {S : Nat → List (Int × Int)} {t : Int} {m : Nat} {x : Lw} {r : Cd} (hb : x.busy.getD m 0 ≤ t) (h : minO ltCd (x.wt.filter (hereB S t m)) = some r) : x.mstep S t m = { wt := x.wt.erase r ++ (if r.2.2.2 + 1 < (S r.2.1).length then [(t + ((S r.2.1)[r.2.2.2]?.getD (0, 0)).2, r.2.1, r.2.2.1, r.2.2.2 + 1)] else []), busy := x.busy.set m (t + ((S r.2.1)[r.2.2.2]?.getD (0, 0)).2), found := x.found ++ [⟨r.2.1, r.2.2.1, r.2.2.2, m, t, t + ((S r.2.1)[r.2.2.2]?.getD (0, 0)).2⟩] } := by
  unfold Lw.mstep
  rw [if_pos hb, h]
structure LRel (S : Nat → List (Int × Int)) (n : Nat) (rows : List Wr) (t : Int) (m : Nat) (x : Lw) (q : Mq) : Prop where
  ok : MqOk S n q
  perm : x.wt.Perm (q.wait.flatten.map (liftW q.at_))
  busy : x.busy = q.free
  found : x.found = q.found
  runs : Runs S q rows
  late : ∀ (m' : Nat) (w : List Wt) (y : Wt), q.wait[m']? = some w → y ∈ w → (if m' < m then t + 1 else t) ≤ max y.1 (q.free.getD m' 0)
theorem LRel.lturn {S : Nat → List (Int × Int)} {n : Nat} {rows : List Wr} {t : Int} {x : Lw} {q : Mq} (h : LRel S n rows t 6 x q) : LRel S n rows (t + 1) 0 x q where
  ok := h.ok
  perm := h.perm
  busy := h.busy
  found := h.found
  runs := h.runs
  late := fun m' w y hw hy => by
    have h1 := h.late m' w y hw hy
    have h2 := (List.getElem?_eq_some_iff.mp hw).1
    rw [h.ok.w6] at h2
    rw [if_pos h2] at h1
    rw [if_neg (Nat.not_lt_zero _)]
    exact h1
theorem mem_liftW {q : Mq} {r : Cd} : r ∈ q.wait.flatten.map (liftW q.at_) ↔ ∃ (m : Nat) (w : List Wt) (y : Wt), q.wait[m]? = some w ∧ y ∈ w ∧ r = liftW q.at_ y := by
  constructor
  · intro h
    obtain ⟨y, hy, rfl⟩ := List.mem_map.mp h
    obtain ⟨w, hw, hyw⟩ := List.mem_flatten.mp hy
    obtain ⟨m, hm⟩ := List.getElem?_of_mem hw
    exact ⟨m, w, y, hm, hyw, rfl⟩
  · rintro ⟨m, w, y, hw, hy, rfl⟩
    exact List.mem_map.mpr ⟨y, mem_flat hw hy, rfl⟩
/-- who may be begun on a machine at a minute -/
theorem LRel.lhere {S : Nat → List (Int × Int)} {n : Nat} {rows : List Wr} {t : Int} {m : Nat} {x : Lw} {q : Mq} (h : LRel S n rows t m x q) {w : List Wt} (hw : q.wait[m]? = some w) {r : Cd} : r ∈ x.wt.filter (hereB S t m) ↔ ∃ y ∈ w, y.1 ≤ t ∧ r = liftW q.at_ y := by
  rw [List.mem_filter, h.perm.mem_iff, mem_liftW]
  unfold hereB
  rw [decide_eq_true_iff]
  constructor
  · rintro ⟨⟨m', w', y, hw', hy, rfl⟩, h1, h2⟩
    obtain ⟨_, mi, hS⟩ := h.ok.it m' w' y hw' hy
    have h3 : ((S y.2.1)[getP q.at_ y.2]?.getD (0, 0)).1 = (m : Int) := h2
    rw [hS] at h3
    have h4 : (m' : Int) = (m : Int) := h3
    obtain rfl : m' = m := by omega
    rw [hw] at hw'
    cases hw'
    exact ⟨y, hy, h1, rfl⟩
  · rintro ⟨y, hy, h1, rfl⟩
    obtain ⟨_, mi, hS⟩ := h.ok.it m w y hw hy
    refine ⟨⟨m, w, y, hw, hy, rfl⟩, h1, ?_⟩
    show ((S y.2.1)[getP q.at_ y.2]?.getD (0, 0)).1 = (m : Int)
    rw [hS]
    rfl
theorem LRel.lwait {S : Nat → List (Int × Int)} {n : Nat} {rows : List Wr} {t : Int} {m : Nat} {x : Lw} {q : Mq} (h : LRel S n rows t m x q) (hm : m < 6) : ∃ w, q.wait[m]? = some w := ⟨_, List.getElem?_eq_getElem (by rw [h.ok.w6]; exact hm)⟩
/-- nothing begins: another machine's turn -/
theorem LRel.lskip {S : Nat → List (Int × Int)} {n : Nat} {rows : List Wr} {t : Int} {m : Nat} {x : Lw} {q : Mq} (h : LRel S n rows t m x q) (hc : ∀ w y, q.wait[m]? = some w → y ∈ w → t + 1 ≤ max y.1 (q.free.getD m 0)) : LRel S n rows t (m + 1) x q where
  ok := h.ok
  perm := h.perm
  busy := h.busy
  found := h.found
  runs := h.runs
  late := fun m' w y hw hy => by
    by_cases e : m' = m
    · subst e
      rw [if_pos (Nat.lt_succ_self _)]
      exact hc w y hw hy
    · have h1 := h.late m' w y hw hy
      by_cases h2 : m' < m
      · rw [if_pos h2] at h1
        rw [if_pos (by omega)]
        exact h1
      · rw [if_neg h2] at h1
        rw [if_neg (by omega)]
        exact h1
theorem minO_some_of_mem {α : Type} {lt : α → α → Bool} {xs : List α} {x : α} (h : x ∈ xs) : ∃ y, minO lt xs = some y := by
  cases xs with
  | nil => cases h
  | cons a b => exact ⟨_, rfl⟩
theorem key_inj {q : Mq} (nd : (q.wait.flatten.map (·.2)).Nodup) {x y : Wt} (hx : x ∈ q.wait.flatten) (hy : y ∈ q.wait.flatten) (e : x.2 = y.2) : x = y := by
  generalize q.wait.flatten = l at nd hx hy
  induction l with
  | nil => cases hx
  | cons a l ih =>
    rw [List.map_cons, List.nodup_cons] at nd
    rcases List.mem_cons.mp hx with h1 | h1
    · rcases List.mem_cons.mp hy with h2 | h2
      · rw [h1, h2]
      · exact absurd (List.mem_map.mpr ⟨y, h2, by rw [← e, h1]⟩) nd.1
    · rcases List.mem_cons.mp hy with h2 | h2
      · exact absurd (List.mem_map.mpr ⟨x, h1, by rw [e, h2]⟩) nd.1
      · exact ih nd.2 h1 h2
/-- the one that is taken is what comes next -/
theorem LRel.isNext {S : Nat → List (Int × Int)} {n : Nat} {rows : List Wr} {t : Int} {m : Nat} {x : Lw} {q : Mq} (h : LRel S n rows t m x q) (hm : m < 6) (hb : x.busy.getD m 0 ≤ t) {r : Cd} (hr : minO ltCd (x.wt.filter (hereB S t m)) = some r) :
    ∃ (w : List Wt) (y : Wt), q.wait[m]? = some w ∧ minO ltWt w = some y ∧ y ∈ w ∧ r = liftW q.at_ y ∧ q.next = some (t, m, y.2) := by
  obtain ⟨w, hw⟩ := h.lwait hm
  rw [h.busy] at hb
  have hrm := minO_mem hr
  obtain ⟨y, hy, hyt, rfl⟩ := (h.lhere hw).mp hrm
  obtain ⟨y0, hy0⟩ := minO_some_of_mem (lt := ltWt) hy
  have hy0m := minO_mem hy0
  have h1 := minO_le ltWt_ok hy0 y hy
  have h1' : ¬ ltWt y y0 = true := by rw [h1]; decide
  rw [ltWt_iff] at h1'
  have hy0t : y0.1 ≤ t := by omega
  have h2 := minO_le ltCd_ok hr _ ((h.lhere hw).mpr ⟨y0, hy0m, hy0t, rfl⟩)
  have h2' : ¬ ltCd (liftW q.at_ y0) (liftW q.at_ y) = true := by rw [h2]; decide
  rw [ltCd_iff] at h2'
  have e : y0 = y := by
    obtain ⟨a, b, c⟩ := y
    obtain ⟨a0, b0, c0⟩ := y0
    unfold liftW at h2'
    dsimp only at h1' h2'
    have : a0 = a ∧ b0 = b ∧ c0 = c := by omega
    obtain ⟨rfl, rfl, rfl⟩ := this
    rfl
  subst e
  refine ⟨w, y0, hw, hy0, hy, rfl, ?_⟩
  have h3 := h.late m w y0 hw hy
  rw [if_neg (Nat.lt_irrefl _)] at h3
  have h4 : max y0.1 (q.free.getD m 0) = t := by omega
  have hcm : ((t, m, y0.2.1, y0.2.2) : Cd) ∈ q.cands := by
    unfold Mq.cands
    refine List.mem_filterMap.mpr ⟨(w, m), List.mem_zipIdx_iff_getElem?.mpr hw, ?_⟩
    unfold candOf
    rw [hy0]
    show some (max y0.1 (q.free.getD m 0), m, y0.2.1, y0.2.2) = _
    rw [h4]
  obtain ⟨c, hc⟩ := minO_some_of_mem (lt := ltCd) hcm
  have hc' : q.next = some c := hc
  obtain ⟨w', z, hw', hz, hzm, hz2, hz1⟩ := next_at hc'
  have h5 := h.late c.2.1 w' z hw' hzm
  rw [← hz1] at h5
  have h6 := minO_le ltCd_ok hc _ hcm
  have h6' : ¬ ltCd (t, m, y0.2.1, y0.2.2) c = true := by rw [h6]; decide
  rw [ltCd_iff] at h6'
  have e2 : c.2.1 = m := by
    dsimp only at h6'
    split at h5 <;> omega
  rw [e2, hw] at hw'
  cases hw'
  rw [hy0] at hz
  cases hz
  have e3 : c.1 = t := by rw [hz1, e2]; exact h4
  rw [hc']
  obtain ⟨c1, c2, c3⟩ := c
  dsimp only at e2 e3 hz2
  rw [e2, e3, hz2]
theorem LRel.ltake {S : Nat → List (Int × Int)} {n : Nat} {rows : List Wr} {t : Int} {m : Nat} {x : Lw} {q : Mq} (hS : ∀ o x, x ∈ S o → 0 ≤ x.1 ∧ x.1 < 6) (hS1 : ∀ o x, x ∈ S o → 1 ≤ x.2) (h : LRel S n rows t m x q) (hm : m < 6) (hb : x.busy.getD m 0 ≤ t) {r : Cd} (hr : minO ltCd (x.wt.filter (hereB S t m)) = some r) :
    ∃ c, q.next = some c ∧ LRel S n rows t (m + 1) (x.mstep S t m) (q.step S c) := by
  obtain ⟨w, y, hw, hy, hym, rfl, hn⟩ := h.isNext hm hb hr
  refine ⟨(t, m, y.2), hn, ?_⟩
  rw [mstep_some hb hr]
  obtain ⟨hyn, mi, hSm⟩ := h.ok.it m w y hw hym
  have hmi : 1 ≤ mi := hS1 _ _ (List.mem_of_getElem? hSm)
  have hgd : ((S y.2.1)[getP q.at_ y.2]?.getD (0, 0)).2 = mi := by rw [hSm]; rfl
  have hgd' : ((S (liftW q.at_ y).2.1)[(liftW q.at_ y).2.2.2]?.getD (0, 0)).2 = mi := hgd
  rw [hgd']
  obtain ⟨x0, r0, hx0, p1, p2⟩ := step_perm h.ok hS hn
  have hfl : y ∈ q.wait.flatten := mem_flat hw hym
  have hx0y : x0 = y := key_inj h.ok.nd (p1.mem_iff.mpr (.head _)) hfl hx0
  subst hx0y
  have nd2 : ((x0 :: r0).map (·.2)).Nodup := (p1.map _).nodup_iff.mp h.ok.nd
  rw [List.map_cons, List.nodup_cons] at nd2
  have hlift : r0.map (liftW (q.step S (t, m, x0.2)).at_) = r0.map (liftW q.at_) := by
    refine List.map_congr_left fun z hz => ?_
    unfold liftW
    rw [step_getP, if_neg]
    intro e
    exact nd2.1 (List.mem_map.mpr ⟨z, hz, e⟩)
  have p3 : (x.wt.erase (liftW q.at_ x0)).Perm (r0.map (liftW q.at_)) := by
    have := (h.perm.trans (p1.map (liftW q.at_))).erase (liftW q.at_ x0)
    rw [List.map_cons, List.erase_cons_head] at this
    exact this
  refine ⟨h.ok.step hS hn, ?_, ?_, ?_, ?_, ?_⟩
  · rcases p2 with ⟨z, hz, p2⟩ | ⟨hz, p2⟩
    · have hl : (liftW q.at_ x0).2.2.2 + 1 < (S (liftW q.at_ x0).2.1).length := (List.getElem?_eq_some_iff.mp hz).1
      rw [if_pos hl]
      refine (List.perm_append_singleton _ _).trans ?_
      refine List.Perm.trans ?_ (p2.map _).symm
      rw [List.map_cons, hlift]
      have e : liftW (q.step S (t, m, x0.2)).at_ (t + ((S x0.2.1)[getP q.at_ x0.2]?.getD (0, 0)).2, x0.2) = (t + mi, x0.2.1, x0.2.2, getP q.at_ x0.2 + 1) := by
        unfold liftW
        rw [step_getP, if_pos rfl, hgd]
      rw [e]
      exact .cons _ p3
    · have hl : ¬ (liftW q.at_ x0).2.2.2 + 1 < (S (liftW q.at_ x0).2.1).length := by
        have : (S x0.2.1).length ≤ getP q.at_ x0.2 + 1 := List.getElem?_eq_none_iff.mp hz
        show ¬ getP q.at_ x0.2 + 1 < (S x0.2.1).length
        omega
      rw [if_neg hl, List.append_nil]
      refine p3.trans ?_
      rw [← hlift]
      exact (p2.map _).symm
  · show x.busy.set m (t + mi) = q.free.set m (t + ((S x0.2.1)[getP q.at_ x0.2]?.getD (0, 0)).2)
    rw [hgd, h.busy]
  · show x.found ++ [⟨x0.2.1, x0.2.2, getP q.at_ x0.2, m, t, t + mi⟩] = q.found ++ [⟨x0.2.1, x0.2.2, getP q.at_ x0.2, m, t, t + ((S x0.2.1)[getP q.at_ x0.2]?.getD (0, 0)).2⟩]
    rw [hgd, h.found]
  · cases h.runs with
    | stop g => rw [hn] at g; cases g
    | step g k =>
      rw [hn] at g
      cases g
      exact k
  · intro m' w' z hw' hz
    have hfree : (q.step S (t, m, x0.2)).free.getD m' 0 = if m = m' then t + mi else q.free.getD m' 0 := by
      show (q.free.set m (t + ((S x0.2.1)[getP q.at_ x0.2]?.getD (0, 0)).2)).getD m' 0 = _
      rw [hgd, getD_set _ _ (by rw [h.ok.f6]; exact hm)]
    rw [hfree]
    by_cases e : m = m'
    · rw [if_pos e, if_pos (by omega)]
      omega
    · rw [if_neg e]
      rcases step_at2 (c := (t, m, x0.2)) hw hy hw' hz with ⟨v, hv, hzv, _⟩ | ⟨z2, _, _, rfl⟩
      · have h1 := h.late m' v z hv hzv
        split at h1
        · rw [if_pos (by omega)]; exact h1
        · rw [if_neg (by omega)]; exact h1
      · dsimp only
        rw [hgd]
        split <;> omega
/-- a machine's turn at a minute -/
theorem LRel.lmstep {S : Nat → List (Int × Int)} {n : Nat} {rows : List Wr} {t : Int} {m : Nat} {x : Lw} {q : Mq} (hS : ∀ o x, x ∈ S o → 0 ≤ x.1 ∧ x.1 < 6) (hS1 : ∀ o x, x ∈ S o → 1 ≤ x.2) (h : LRel S n rows t m x q) (hm : m < 6) : ∃ q', LRel S n rows t (m + 1) (x.mstep S t m) q' := by
  by_cases hb : x.busy.getD m 0 ≤ t
  · cases hr : minO ltCd (x.wt.filter (hereB S t m)) with
    | some r =>
      obtain ⟨c, _, h'⟩ := h.ltake hS hS1 hm hb hr
      exact ⟨_, h'⟩
    | none =>
      rw [mstep_none hr]
      refine ⟨q, h.lskip fun w y hw hy => ?_⟩
      have h1 := minO_none hr
      by_cases hy1 : y.1 ≤ t
      · have : liftW q.at_ y ∈ x.wt.filter (hereB S t m) := (h.lhere hw).mpr ⟨y, hy, hy1, rfl⟩
        rw [h1] at this
        cases this
      · omega
  · rw [mstep_busy hb]
    rw [h.busy] at hb
    exact ⟨q, h.lskip fun w y hw hy => by omega⟩
theorem runs_found {S : Nat → List (Int × Int)} {q : Mq} {rows : List Wr} (h : Runs S q rows) : ∃ more, rows = q.found ++ more := by
  induction h with
  | stop _ => exact ⟨[], (List.append_nil _).symm⟩
  | @step q c rows _ _ ih =>
    obtain ⟨more, rfl⟩ := ih
    exact ⟨_, List.append_assoc ..⟩
/-- while rows are left, the next begins no earlier than now -/
theorem LRel.lleft {S : Nat → List (Int × Int)} {n : Nat} {rows : List Wr} {t : Int} {x : Lw} {q : Mq} (h : LRel S n rows t 0 x q) (hl : x.found.length < rows.length) : ∃ r ∈ rows, t ≤ r.b := by
  rw [h.found] at hl
  have hr := h.runs
  cases hr with
  | stop g => exact absurd hl (Nat.lt_irrefl _)
  | @step _ c _ g k =>
    obtain ⟨w, y, hw, _, hym, _, e⟩ := next_at g
    have h1 := h.late c.2.1 w y hw hym
    rw [if_neg (Nat.not_lt_zero _), ← e] at h1
    obtain ⟨more, hm⟩ := runs_found k
    refine ⟨⟨c.2.2.1, c.2.2.2, getP q.at_ (c.2.2.1, c.2.2.2), c.2.1, c.1, c.1 + ((S c.2.2.1)[getP q.at_ (c.2.2.1, c.2.2.2)]?.getD (0, 0)).2⟩, ?_, h1⟩
    rw [hm]
    exact List.mem_append_left _ (List.mem_append_right _ (.head _))
theorem LRel.found_le {S : Nat → List (Int × Int)} {n : Nat} {rows : List Wr} {t : Int} {m : Nat} {x : Lw} {q : Mq} (h : LRel S n rows t m x q) : x.found.length ≤ rows.length := by
  obtain ⟨more, hm⟩ := runs_found h.runs
  rw [h.found, hm, List.length_append]
  omega
theorem LRel.ldone {S : Nat → List (Int × Int)} {n : Nat} {rows : List Wr} {t : Int} {m : Nat} {x : Lw} {q : Mq} (h : LRel S n rows t m x q) (hl : ¬ x.found.length < rows.length) : x.found = rows := by
  obtain ⟨more, hm⟩ := runs_found h.runs
  rw [h.found] at hl ⊢
  rw [hm, List.length_append] at hl
  have : more = [] := List.length_eq_zero_iff.mp (by omega)
  rw [hm, this, List.append_nil]
theorem bound_b (rows : List Wr) : ∃ T : Int, ∀ r ∈ rows, r.b < T := by
  induction rows with
  | nil => exact ⟨0, fun _ h => nomatch h⟩
  | cons a l ih =>
    obtain ⟨T, hT⟩ := ih
    refine ⟨max T (a.b + 1), fun r hr => ?_⟩
    rcases List.mem_cons.mp hr with rfl | hr
    · omega
    · have := hT r hr
      omega
end PM

/-! machines, plainly: the law's start (k23), its ends -/
namespace PM
open PySem PySem.Spec PyProof.Rows L2 WK
theorem filter_or_perm {α : Type} {p q : α → Bool} (h : ∀ x, p x = true → q x = false) : ∀ l : List α, (l.filter p ++ l.filter q).Perm (l.filter fun x => p x || q x)
  | [] => .refl _
  | a :: l => by
    have ih := filter_or_perm h l
    by_cases hp : p a = true
    · rw [List.filter_cons_of_pos hp, List.filter_cons_of_neg (by rw [h a hp]; decide), List.filter_cons_of_pos (by rw [hp]; rfl)]
      exact .cons _ ih
    · rw [List.filter_cons_of_neg hp]
      by_cases hq : q a = true
      · rw [List.filter_cons_of_pos hq, List.filter_cons_of_pos (by rw [hq, Bool.or_true])]
        exact List.perm_middle.trans (.cons _ ih)
      · rw [List.filter_cons_of_neg hq, List.filter_cons_of_neg (by rw [Bool.eq_false_iff.mpr hp, Bool.eq_false_iff.mpr hq]; decide)]
        exact ih
def ltO (k : Nat) : Option Nat → Bool
  | some j => decide (j < k)
  | none => false
theorem parts_perm {α : Type} (f : α → Option Nat) (l : List α) : ∀ k : Nat, ((List.range k).flatMap fun i => l.filter fun x => decide (f x = some i)).Perm (l.filter fun x => ltO k (f x))
  | 0 => by
    have : l.filter (fun x => ltO 0 (f x)) = [] := List.filter_eq_nil_iff.mpr fun x _ => by
      cases f x with
      | none => decide
      | some j => simp [ltO]
    rw [this]
    exact .refl _
  | k + 1 => by
    rw [List.range_succ, List.flatMap_append]
    have ih := parts_perm f l k
    refine (List.Perm.append_right _ ih).trans ?_
    show (_ ++ ((l.filter fun x => decide (f x = some k)) ++ [])).Perm _
    rw [List.append_nil]
    refine (filter_or_perm (fun x hx => ?_) l).trans ?_
    · cases h : f x with
      | none => rfl
      | some j =>
        rw [h] at hx
        have : j < k := of_decide_eq_true hx
        exact decide_eq_false fun e => by cases e; omega
    · have e : (fun x => ltO k (f x) || decide (f x = some k)) = fun x => ltO (k + 1) (f x) := by
        funext x
        cases f x with
        | none => rfl
        | some j =>
          show (decide (j < k) || decide (some j = some k)) = decide (j < k + 1)
          rw [Bool.eq_iff_iff]
          simp only [Bool.or_eq_true, decide_eq_true_iff, Option.some.injEq]
          omega
      rw [e]
/-- those that wait at the beginning -/
theorem start_flat {rs : List PRow} (G : GoodBook rs) (os : List Or) : (startQ (stOf rs os) os).wait.flatten.Perm (((allP os).filter fun x => (fstM rs x.2.2).isSome).map fun x => ((x.1, x.2.1) : Wt)) := by
  have ok := (startQ_ok (stOf_good G os).1 os).1
  have hw : (startQ (stOf rs os) os).wait = (List.range 6).map fun k => waitAt rs (allP os) k := by
    refine List.ext_getElem? fun k => ?_
    rw [List.getElem?_map]
    by_cases hk : k < 6
    · have a1 := startQ_at G os hk
      rw [List.getD_eq_getElem?_getD, List.getElem?_eq_getElem (by rw [ok.w6]; exact hk)] at a1
      rw [List.getElem?_eq_getElem (by rw [ok.w6]; exact hk), List.getElem?_range hk]
      exact congrArg some a1
    · rw [List.getElem?_eq_none (by rw [ok.w6]; omega), List.getElem?_eq_none (by rw [List.length_range]; omega)]
      rfl
  rw [hw, ← List.flatMap_def]
  have e : ((List.range 6).flatMap fun k => waitAt rs (allP os) k) = ((List.range 6).flatMap fun k => (allP os).filter fun x => decide (fstM rs x.2.2 = some k)).map fun x => ((x.1, x.2.1) : Wt) := by
    rw [List.map_flatMap]
    rfl
  rw [e]
  refine ((parts_perm (fun x : Px => fstM rs x.2.2) (allP os) 6).map _).trans ?_
  have e2 : (fun x : Px => ltO 6 (fstM rs x.2.2)) = fun x : Px => (fstM rs x.2.2).isSome := by
    funext x
    cases h : fstM rs x.2.2 with
    | none => rfl
    | some j =>
      unfold fstM at h
      obtain ⟨y, hy, rfl⟩ := Option.map_eq_some_iff.mp h
      have := stepsN_good G x.2.2 y (List.mem_of_getElem? hy)
      exact decide_eq_true (by omega)
  rw [e2]
/-- an order's pieces, as the law has them wait -/
def lawW (rs : List PRow) (x : Or × Nat) : List Cd := if (stepsN rs x.1.1).isEmpty then [] else (List.range x.1.2.1.toNat).map fun p => (x.1.2.2, x.2, p, 0)
def lawS (rs : List PRow) (os : List Or) : List Cd := os.zipIdx.flatMap (lawW rs)
theorem lawW_eq (rs : List PRow) (x : Or × Nat) : lawW rs x = ((pcsG x).filter fun y => (fstM rs y.2.2).isSome).map fun y => (y.1, y.2.1.1, y.2.1.2, 0) := by
  have hf : (fstM rs x.1.1).isSome = !(stepsN rs x.1.1).isEmpty := by
    unfold fstM
    cases stepsN rs x.1.1 <;> rfl
  unfold lawW pcsG
  rw [List.filter_map]
  have hc : ((fun y : Px => (fstM rs y.2.2).isSome) ∘ fun p : Nat => ((x.1.2.2, (x.2, p), x.1.1) : Px)) = fun _ => (fstM rs x.1.1).isSome := rfl
  rw [hc, hf]
  cases (stepsN rs x.1.1).isEmpty with
  | true =>
    rw [if_pos rfl]
    have : (List.range x.1.2.1.toNat).filter (fun _ => !true) = [] := List.filter_eq_nil_iff.mpr fun _ _ => by decide
    rw [this]
    rfl
  | false =>
    rw [if_neg (by decide)]
    have : (List.range x.1.2.1.toNat).filter (fun _ => !false) = List.range x.1.2.1.toNat := List.filter_eq_self.mpr fun _ _ => rfl
    rw [this, List.map_map]
    rfl
theorem lawS_eq (rs : List PRow) (os : List Or) : lawS rs os = ((allP os).filter fun x => (fstM rs x.2.2).isSome).map fun y => (y.1, y.2.1.1, y.2.1.2, 0) := by
  unfold lawS allP
  rw [List.filter_flatMap, List.map_flatMap]
  exact congrArg (fun f => os.zipIdx.flatMap f) (funext fun x => lawW_eq rs x)
theorem LRel.lstart {rs : List PRow} (G : GoodBook rs) {os : List Or} {rows : List Wr} (h : Runs (stOf rs os) (startQ (stOf rs os) os) rows) : LRel (stOf rs os) os.length rows 0 0 ⟨lawS rs os, List.replicate 6 0, []⟩ (startQ (stOf rs os) os) where
  ok := (startQ_ok (stOf_good G os).1 os).1
  perm := by
    refine List.Perm.trans ?_ ((start_flat G os).map _).symm
    rw [List.map_map]
    show (lawS rs os).Perm _
    rw [lawS_eq]
    exact .refl _
  busy := rfl
  found := rfl
  runs := h
  late := fun m' w y hw _ => by
    rw [if_neg (Nat.not_lt_zero _)]
    have h6 := (List.getElem?_eq_some_iff.mp hw).1
    have e : (startQ (stOf rs os) os).free = List.replicate 6 0 := rfl
    rw [e]
    have : (List.replicate 6 (0 : Int)).getD m' 0 = 0 := by
      rw [List.getD_eq_getElem?_getD, List.getElem?_replicate]
      split <;> rfl
    rw [this]
    omega
theorem runs_len2 {S : Nat → List (Int × Int)} {n : Nat} (hS : ∀ o x, x ∈ S o → 0 ≤ x.1 ∧ x.1 < 6) {q : Mq} {rows : List Wr} (h : Runs S q rows) : MqOk S n q → rows.length = q.found.length + q.left S := by
  induction h with
  | @stop q hn =>
    intro _
    have h1 := next_none hn
    have : q.left S = 0 := by
      unfold Mq.left
      rw [h1]
      rfl
    omega
  | @step q c rows hn _ ih =>
    intro ok
    have h1 := ih (ok.step hS hn)
    have h2 := step_left ok hS hn
    have h3 : (q.step S c).found.length = q.found.length + 1 := by
      show (q.found ++ [_]).length = _
      rw [List.length_append]
      rfl
    omega
theorem len_le_sum {α : Type} {f : α → Nat} : ∀ {l : List α}, (∀ x ∈ l, 1 ≤ f x) → l.length ≤ (l.map f).sum
  | [], _ => Nat.le_refl _
  | a :: l, h => by
    have ih := len_le_sum (l := l) fun x hx => h x (.tail _ hx)
    have := h a (.head _)
    rw [List.length_cons, List.map_cons, List.sum_cons]
    omega
theorem MqOk.fewq {S : Nat → List (Int × Int)} {n : Nat} {q : Mq} (ok : MqOk S n q) : q.wait.flatten.length ≤ q.left S := by
  unfold Mq.left
  refine len_le_sum fun x hx => ?_
  obtain ⟨w, hw, hxw⟩ := List.mem_flatten.mp hx
  obtain ⟨m, hm⟩ := List.getElem?_of_mem hw
  obtain ⟨_, mi, h⟩ := ok.it m w x hm hxw
  have := (List.getElem?_eq_some_iff.mp h).1
  omega
theorem LRel.lfew {S : Nat → List (Int × Int)} {n : Nat} {rows : List Wr} {t : Int} {m : Nat} {x : Lw} {q : Mq} (hS : ∀ o x, x ∈ S o → 0 ≤ x.1 ∧ x.1 < 6) (h : LRel S n rows t m x q) : x.wt.length ≤ rows.length := by
  have h1 := h.perm.length_eq
  rw [List.length_map] at h1
  have h2 := h.ok.fewq
  have h3 := runs_len2 hS h.runs h.ok
  omega
theorem cast_sum {α : Type} (f : α → Nat) (l : List α) : ((l.map f).sum : Int) = (l.map fun x => (f x : Int)).sum := by
  induction l with
  | nil => rfl
  | cons a l ih => rw [List.map_cons, List.sum_cons, List.map_cons, List.sum_cons, ← ih]; omega
/-- how many steps in all -/
def stepsAll (rs : List PRow) (os : List Or) : Int := (os.map fun x => x.2.1 * ((stepsN rs x.1).length : Int)).sum
theorem start_left {rs : List PRow} (G : GoodBook rs) {os : List Or} (hm0 : ∀ x ∈ os, 0 ≤ x.2.1) : ((startQ (stOf rs os) os).left (stOf rs os) : Int) = stepsAll rs os := by
  unfold Mq.left
  rw [cast_sum, sum_perm ((start_flat G os).map _), List.map_map]
  have h1 : (((allP os).filter fun x => (fstM rs x.2.2).isSome).map ((fun x : Wt => (((stOf rs os x.2.1).length - getP (startQ (stOf rs os) os).at_ x.2 : Nat) : Int)) ∘ fun x : Px => ((x.1, x.2.1) : Wt))).sum = ((allP os).map fun x => ((stepsN rs x.2.2).length : Int)).sum := by
    have hin : ∀ x ∈ allP os, PxIn os x := fun x hx => allP_in hx
    generalize allP os = l at hin
    induction l with
    | nil => rfl
    | cons a l ih =>
      have ih := ih fun x hx => hin x (.tail _ hx)
      rw [List.map_cons, List.sum_cons, ← ih]
      have hf : (fstM rs a.2.2).isSome = !(stepsN rs a.2.2).isEmpty := by
        unfold fstM
        cases stepsN rs a.2.2 <;> rfl
      by_cases h : (fstM rs a.2.2).isSome = true
      · rw [List.filter_cons_of_pos (p := fun x : Px => (fstM rs x.2.2).isSome) h, List.map_cons, List.sum_cons]
        congr 1
        obtain ⟨y, hy, hyn, _, _⟩ := hin a (.head _)
        show (((stOf rs os a.2.1.1).length - 0 : Nat) : Int) = _
        rw [Nat.sub_zero, stOf_N hy, hyn]
      · rw [List.filter_cons_of_neg (p := fun x : Px => (fstM rs x.2.2).isSome) h]
        rw [hf] at h
        cases hs : stepsN rs a.2.2 with
        | nil => rw [List.length_nil]; exact (Int.zero_add _).symm
        | cons b c => rw [hs] at h; exact absurd rfl h
  rw [h1]
  unfold allP stepsAll
  rw [flatMap_sum]
  have hg : ∀ x ∈ os.zipIdx, ((pcsG x).map fun y => ((stepsN rs y.2.2).length : Int)).sum = x.1.2.1 * ((stepsN rs x.1.1).length : Int) := fun x hx => by
    unfold pcsG
    rw [List.map_map]
    show ((List.range x.1.2.1.toNat).map fun _ => ((stepsN rs x.1.1).length : Int)).sum = _
    rw [const_sum]
    have h1 := List.mem_zipIdx_iff_getElem?.mp hx
    have h2 := hm0 x.1 (List.mem_of_getElem? h1)
    have : ((x.1.2.1.toNat : Nat) : Int) = x.1.2.1 := by omega
    rw [this]
  rw [List.map_congr_left hg]
  exact congrArg List.sum (map_zipIdx_fst (fun x : Or => x.2.1 * ((stepsN rs x.1).length : Int)) os)
theorem worked_steps {rs : List PRow} (G : GoodBook rs) {os : List Or} (hm0 : ∀ x ∈ os, 0 ≤ x.2.1) {rows : List Wr} (h : Runs (stOf rs os) (startQ (stOf rs os) os) rows) : (rows.length : Int) = stepsAll rs os := by
  rw [← start_left G hm0, runs_len2 (stOf_good G os).1 h (startQ_ok (stOf_good G os).1 os).1]
  show ((0 + _ : Nat) : Int) = _
  rw [Nat.zero_add]
/-- an order's end, by its own rows -/
theorem endsOf_at {os : List Or} {k : Nat} {y : Or} (hk : os[k]? = some y) : ∀ rows : List Wr, (endsOf os rows).getD k 0 = ((rows.filter fun r => decide (r.o = k)).map (·.e)).foldl max y.2.2 := by
  intro rows
  unfold endsOf
  have h0 : (os.map (·.2.2)).getD k 0 = y.2.2 := by rw [List.getD_eq_getElem?_getD, List.getElem?_map, hk]; rfl
  have hl : k < (os.map (·.2.2)).length := by rw [List.length_map]; exact (List.getElem?_eq_some_iff.mp hk).1
  rw [← h0]
  generalize os.map (·.2.2) = f at hl
  clear h0
  induction rows generalizing f with
  | nil => rfl
  | cons r rows ih =>
    rw [List.foldl_cons, ih _ (by rw [List.length_set]; exact hl)]
    by_cases e : r.o = k
    · rw [List.filter_cons_of_pos (by exact decide_eq_true e), List.map_cons, List.foldl_cons, e, getD_set _ _ hl, if_pos rfl]
    · rw [List.filter_cons_of_neg (by rw [decide_eq_false e]; decide)]
      congr 1
      by_cases hr : r.o < f.length
      · rw [getD_set _ _ hr, if_neg e]
      · rw [List.set_eq_of_length_le (by omega)]
theorem foldl_max_top (l : List Int) : ∀ a : Int, (l.foldl max a ∈ l ++ [a]) ∧ ∀ x ∈ l ++ [a], x ≤ l.foldl max a := by
  induction l with
  | nil => exact fun a => ⟨.head _, fun x hx => by rw [List.mem_singleton.mp hx]; exact Int.le_refl _⟩
  | cons b l ih =>
    intro a
    obtain ⟨h1, h2⟩ := ih (max a b)
    rw [List.foldl_cons]
    refine ⟨?_, fun x hx => ?_⟩
    · rcases List.mem_append.mp h1 with h1 | h1
      · exact List.mem_append_left _ (.tail _ h1)
      · rw [List.mem_singleton.mp h1]
        rcases Int.max_def a b ▸ (by split <;> simp : (if a ≤ b then b else a) = a ∨ (if a ≤ b then b else a) = b) with h | h
        · rw [show max a b = a from by rw [Int.max_def]; exact h]; exact List.mem_append_right _ (.head _)
        · rw [show max a b = b from by rw [Int.max_def]; exact h]; exact .head _
    · have hm := h2 (max a b) (List.mem_append_right _ (.head _))
      rcases List.mem_append.mp hx with hx | hx
      · rcases List.mem_cons.mp hx with rfl | hx
        · omega
        · exact h2 x (List.mem_append_left _ hx)
      · rw [List.mem_singleton.mp hx]
        omega
theorem max_is {l : List Int} {a M : Int} (h1 : M ∈ l ++ [a]) (h2 : ∀ x ∈ l ++ [a], x ≤ M) : M = l.foldl max a := by
  obtain ⟨h3, h4⟩ := foldl_max_top l a
  have := h4 M h1
  have := h2 _ h3
  omega
/-- a machine's minutes, by its own rows -/
theorem usedOf_at {k : Nat} (hk : k < 6) (rows : List Wr) : (usedOf rows).getD k 0 = ((rows.filter fun r => decide (r.m = k)).map fun r => r.e - r.b).sum := by
  unfold usedOf
  have gen : ∀ (rows : List Wr) (f : List Int), f.length = 6 → (rows.foldl (fun f r => f.set r.m (f.getD r.m 0 + (r.e - r.b))) f).getD k 0 = f.getD k 0 + ((rows.filter fun r => decide (r.m = k)).map fun r => r.e - r.b).sum := by
    intro rows
    induction rows with
    | nil => intro f _; exact (Int.add_zero _).symm
    | cons r rows ih =>
      intro f hf
      rw [List.foldl_cons, ih _ (by rw [List.length_set]; exact hf)]
      by_cases e : r.m = k
      · rw [List.filter_cons_of_pos (by exact decide_eq_true e), List.map_cons, List.sum_cons, e, getD_set _ _ (by omega), if_pos rfl]
        omega
      · rw [List.filter_cons_of_neg (by rw [decide_eq_false e]; decide)]
        congr 1
        by_cases hr : r.m < f.length
        · rw [getD_set _ _ hr, if_neg e]
        · rw [List.set_eq_of_length_le (by omega)]
  have h := gen rows (List.replicate 6 0) rfl
  have h0 : (List.replicate 6 (0 : Int)).getD k 0 = 0 := by
    rw [List.getD_eq_getElem?_getD, List.getElem?_replicate]
    split <;> rfl
  rw [h0, Int.zero_add] at h
  exact h
theorem rangeGetI (l : List Int) : (List.range l.length).map (fun k => PyData.int (l.getD k 0)) = l.map PyData.int := by
  refine List.ext_getElem (by rw [List.length_map, List.length_map, List.length_range]) fun i h1 h2 => ?_
  rw [List.length_map] at h2
  rw [List.getElem_map, List.getElem_map, List.getElem_range, List.getD_eq_getElem?_getD, List.getElem?_eq_getElem h2]
  rfl
theorem alWr (l : List Wr) (h : l.length ≤ 100000) (n : Nat) : AlOk (n + 2) (.list (l.map encWr)) := by
  refine AlOk.lst (by rw [List.length_map]; exact h) fun d hd => ?_
  obtain ⟨r, _, rfl⟩ := List.mem_map.mp hd
  refine AlOk.tup (by show 6 ≤ 100000; decide) fun e he => ?_
  simp only [List.mem_cons, List.not_mem_nil, or_false] at he
  rcases he with rfl | rfl | rfl | rfl | rfl | rfl <;> exact AlOk.int
theorem alInts (l : List Int) (h : l.length ≤ 100000) (n : Nat) : AlOk (n + 1) (.list (l.map PyData.int)) := by
  refine AlOk.lst (by rw [List.length_map]; exact h) fun d hd => ?_
  obtain ⟨r, _, rfl⟩ := List.mem_map.mp hd
  exact AlOk.int
end PM

/-! the cells of a queue of machines -/
namespace WK
open PySem PySem.Spec PyProof.Rows L2 PM
/-- what waits for a machine: the list, what stands in it, what that is -/
structure WQ where
  a : Addr
  vs : List V
  w : List Wt
structure AQ where
  q : Addr
  dx : Addr
  wa : Addr
  fa : Addr
  ws : List WQ
  free : List Int
def qF (A : AQ) : List (Str × V) := [("waiting", .ref A.wa), ("free", .ref A.fa)]
def wqC (x : WQ) : Addr × HO := (x.a, .lst x.vs)
abbrev QL (CQ : Addr) (A : AQ) : Led := (A.q, .ins CQ A.dx (qF A)) :: (A.wa, .lst (A.ws.map fun x => .ref x.a)) :: (A.fa, .lst (A.free.map V.int)) :: A.ws.map wqC
/-- a thing, or None -/
def optQ (K : PySem.W.Frag) (B : Hp) (v : V) : Option PyData → Prop
  | none => v = .non
  | some d => Dp K B v d ∧ v ≠ .non
def QB (K : PySem.W.Frag) (B : Hp) (A : AQ) : Prop := ∀ x ∈ A.ws, DpAll K B x.vs (x.w.map encWt)
theorem QB.up {K : PySem.W.Frag} {B B' : Hp} {A : AQ} (h : QB K B A) (e : Ex B B') : QB K B' A := fun x hx => (h x hx).up e
theorem mQx {CQ : Addr} {A : AQ} {i : Nat} {x : WQ} (h : A.ws[i]? = some x) : (x.a, HO.lst x.vs) ∈ QL CQ A := .tail _ (.tail _ (.tail _ (List.mem_map.mpr ⟨x, List.mem_of_getElem? h, rfl⟩)))
theorem depth_map {α : Type} {enc : α → PyData} (n : Nat) (h : ∀ x, (enc x).depth ≤ n) : ∀ xs : List α, PyData.depthAll (xs.map enc) ≤ n
  | [] => by rw [List.map_nil, PyData.depthAll]; exact Nat.zero_le _
  | x :: xs => by
    rw [List.map_cons, PyData.depthAll]
    exact Nat.max_le.mpr ⟨h x, depth_map n h xs⟩
theorem plain_map {α : Type} {enc : α → PyData} (h : ∀ x, (enc x).plain = true) : ∀ xs : List α, PyData.plainAll (xs.map enc) = true
  | [] => by rw [List.map_nil, PyData.plainAll]
  | x :: xs => by
    rw [List.map_cons, PyData.plainAll, h x, plain_map h xs]
    rfl
theorem depth_Wt (x : Wt) : (encWt x).depth ≤ 2 := by simp [encWt, PyData.depth, PyData.depthAll]
theorem depth_Cd (x : Cd) : (encCd x).depth ≤ 2 := by simp [encCd, PyData.depth, PyData.depthAll]
theorem plain_Wt (x : Wt) : (encWt x).plain = true := by simp [encWt, PyData.plain, PyData.plainAll]
theorem eqv_Wt (x y : Wt) : PyData.eqv (encWt x) (encWt y) = decide (x = y) := by
  obtain ⟨a, b, c⟩ := x
  obtain ⟨d, e, f⟩ := y
  simp only [encWt, PyData.eqv, PyData.eqvAll, Bool.and_true]
  have h1 : ∀ i j : Int, (i == j) = decide (i = j) := fun i j => rfl
  have h2 : ∀ i j : Nat, ((i : Int) == (j : Int)) = decide (i = j) := fun i j => by
    rw [h1]
    by_cases h : i = j
    · rw [decide_eq_true h, decide_eq_true (congrArg _ h)]
    · rw [decide_eq_false h, decide_eq_false (fun z => h (by omega))]
  rw [h1, h2, h2]
  by_cases g : a = d ∧ b = e ∧ c = f
  · obtain ⟨rfl, rfl, rfl⟩ := g
    simp
  · rw [decide_eq_false (p := (a, b, c) = (d, e, f)) (fun z => g (by cases z; exact ⟨rfl, rfl, rfl⟩))]
    by_cases g1 : a = d
    · by_cases g2 : b = e
      · have g3 : ¬ c = f := fun z => g ⟨g1, g2, z⟩
        rw [decide_eq_false g3, Bool.and_false, Bool.and_false]
      · rw [decide_eq_false g2, Bool.false_and, Bool.and_false]
    · rw [decide_eq_false g1, Bool.false_and]
section
variable {P : Program} {w : World} {K : PySem.W.Frag} {F : Ent} {B H : Hp} {L : Led} {Q : VK} {a : Addr}
theorem v_minA {α : Type} {lt : α → α → Bool} {enc : α → PyData} {as : List α} {m : α} {xs : List V} (hlt : ∀ x y, PySem.W.dataLt (enc x) (enc y) = lt x y) (alk : ∀ xs : List α, PySem.W.AlikeAll (xs.map enc)) (dep : ∀ x, (enc x).depth ≤ 2) (S : Ok F B L H) (h : H a = some (.lst xs)) (hd : DpAll K B xs (as.map enc)) (hm : minO lt as = some m) (k : ∀ v, Dp K B v (enc m) → Q v H) : CallU P w K (.builtin "min") [.ref a] H Q := by
  cases as with
  | nil => cases hm
  | cons x as =>
    cases hm
    refine .ofK (r := rMinD) (fun _ al => call_minD al.calm al.hu64) ⟨a, xs, enc x, as.map enc, rfl, SqL.of h, hd.up S.ex, alk (x :: as), Nat.le_trans (depth_map 2 dep (x :: as)) (by decide), fun i v hv hi => ?_⟩
    obtain ⟨d, hdd, hvd⟩ := hd.get hv
    have : d = enc (minF lt x as) := by
      have h1 : (enc x :: as.map enc)[i]? = some d := hdd
      rw [hi, minD_map hlt] at h1
      exact (Option.some.inj h1).symm
    rw [this] at hvd
    exact k v hvd
/-- the first that is the same is taken out of one's own list -/
theorem v_remWt {ws : List Wt} {m : Wt} {xs : List V} {y : V} (n : Nat) (S : Ok F B L H) (hn : L[n]? = some (a, .lst xs)) (hd : DpAll K B xs (ws.map encWt)) (hy : Dp K B y (encWt m)) (hm : m ∈ ws) (k : ∀ ys H', DpAll K B ys ((ws.erase m).map encWt) → Ok F B (L.set n (a, .lst ys)) H' → Q .non H') : MetU P w K "list.remove" (.ref a) [y] H Q := by
  have hf : PySem.SeqAt.dataPlace (ws.map encWt) (encWt m) = some (ws.idxOf m) := by
    unfold PySem.SeqAt.dataPlace
    rw [List.findIdx?_map]
    have : (fun y => PyData.eqv y (encWt m)) ∘ encWt = fun y => decide (y = m) := funext fun y => eqv_Wt y m
    rw [this, List.findIdx?_eq_some_iff_findIdx_eq]
    have e : List.findIdx (fun y => decide (y = m)) ws = ws.idxOf m := by
      unfold List.idxOf
      congr 1
      funext x
      by_cases h : x = m
      · rw [decide_eq_true h, h]
        exact (beq_self_eq_true m).symm
      · rw [decide_eq_false h]
        exact (beq_eq_false_iff_ne.mpr h).symm
    exact ⟨List.idxOf_lt_length_iff.mpr hm, e⟩
  refine .ofK (r := rRemD) (fun _ al => mt_removeD al.hu64) ⟨a, xs, ws.map encWt, y, encWt m, ws.idxOf m, rfl, rfl, (S.own _ (List.mem_of_getElem? hn)).1, hd.up S.ex, hy.up S.ex, plain_map plain_Wt ws, plain_Wt m, Nat.le_trans (depth_Wt m) (by decide), hf, ?_⟩
  refine k _ _ ?_ (S.mutN n hn)
  rw [List.erase_eq_eraseIdx_of_idxOf rfl]
  have go : ∀ (ds : List PyData) (vs : List V) (j : Nat), DpAll K B vs ds → DpAll K B (vs.eraseIdx j) (ds.eraseIdx j) := by
    intro ds
    induction ds with
    | nil => intro vs j h; cases h; exact .nil
    | cons d ds ih =>
      intro vs j h
      cases h with
      | cons h t =>
        cases j with
        | zero => exact t
        | succ j => exact .cons h (ih _ j t)
  have me : ∀ (as : List Wt) (j : Nat), (as.map encWt).eraseIdx j = (as.eraseIdx j).map encWt := by
    intro as
    induction as with
    | nil => intro j; rfl
    | cons x as ih =>
      intro j
      cases j with
      | zero => rfl
      | succ j => exact congrArg (encWt x :: ·) (ih j)
  rw [← me]
  exact go _ _ _ hd
end
end WK
namespace WK
open PySem PySem.Spec PyProof.Rows L2 PM
def AQ.put (A : AQ) (m : Nat) (x : WQ) : AQ := { A with ws := A.ws.set m x }
section
variable {CQ : Addr} {A : AQ} {m : Nat} {x : WQ} {R : Led}
theorem QL_at (h : A.ws[m]? = some x) : (QL CQ A ++ R)[m + 3]? = some (x.a, .lst x.vs) := by
  have hm := (List.getElem?_eq_some_iff.mp h).1
  show ((A.ws.map wqC) ++ R)[m]? = _
  rw [List.getElem?_append_left (by rw [List.length_map]; exact hm), List.getElem?_map, h]
  rfl
theorem map_set_same {α β : Type} {f : α → β} : ∀ {l : List α} {m : Nat} {x y : α}, l[m]? = some x → f y = f x → (l.set m y).map f = l.map f
  | [], _, _, _, h, _ => by simp at h
  | a :: l, 0, x, y, h, e => by
    have : a = x := Option.some.inj h
    subst this
    show f y :: l.map f = f a :: l.map f
    rw [e]
  | a :: l, m + 1, x, y, h, e => congrArg (f a :: ·) (map_set_same (l := l) (m := m) h e)
theorem QL_put (h : A.ws[m]? = some x) (vs : List V) (w : List Wt) : (QL CQ A ++ R).set (m + 3) (x.a, .lst vs) = QL CQ (A.put m ⟨x.a, vs, w⟩) ++ R := by
  have hm := (List.getElem?_eq_some_iff.mp h).1
  show (A.q, HO.ins CQ A.dx (qF A)) :: (A.wa, HO.lst (A.ws.map fun x => V.ref x.a)) :: (A.fa, HO.lst (A.free.map V.int)) :: ((A.ws.map wqC) ++ R).set m (x.a, .lst vs) = (A.q, HO.ins CQ A.dx (qF A)) :: (A.wa, HO.lst ((A.ws.set m ⟨x.a, vs, w⟩).map fun x => V.ref x.a)) :: (A.fa, HO.lst (A.free.map V.int)) :: ((A.ws.set m ⟨x.a, vs, w⟩).map wqC ++ R)
  rw [map_set_same (f := fun x : WQ => V.ref x.a) (y := ⟨x.a, vs, w⟩) h rfl, List.set_append_left _ _ (by rw [List.length_map]; exact hm), List.map_set]
  rfl
theorem QB.put {K : PySem.W.Frag} {B : Hp} (qb : QB K B A) {vs : List V} {w : List Wt} {a : Addr} (h : DpAll K B vs (w.map encWt)) : QB K B (A.put m ⟨a, vs, w⟩) := fun y hy => by
  rcases List.mem_or_eq_of_mem_set hy with hy | rfl
  · exact qb y hy
  · exact h
theorem put_w (vs : List V) (w : List Wt) (a : Addr) : (A.put m ⟨a, vs, w⟩).ws.map (·.w) = (A.ws.map (·.w)).set m w := by
  show (A.ws.set m _).map _ = _
  rw [List.map_set]
end
/-! a dict with pairs of numbers as keys -/
def keyP (k : Nat × Nat) : List Key := [.inl (k.1 : Int), .inl (k.2 : Int)]
def kvP (l : List ((Nat × Nat) × Nat)) : List (List Key × V) := l.map fun x => (keyP x.1, V.int (x.2 : Int))
theorem keyP_inj {k j : Nat × Nat} : keyP k = keyP j ↔ k = j := by
  constructor
  · intro h
    unfold keyP at h
    injection h with h1 h2
    injection h2 with h2 _
    injection h1 with h1
    injection h2 with h2
    obtain ⟨a, b⟩ := k
    obtain ⟨c, d⟩ := j
    have e1 : a = c := Int.ofNat_inj.mp h1
    have e2 : b = d := Int.ofNat_inj.mp h2
    rw [e1, e2]
  · rintro rfl; rfl
theorem valV_kvP (l : List ((Nat × Nat) × Nat)) (k : Nat × Nat) : (valV (kvP l) (keyP k)).getD (.int 0) = .int (getP l k : Int) := by
  unfold valV kvP getP
  rw [List.find?_map]
  have : ((fun kv : List Key × V => decide (kv.1 = keyP k)) ∘ fun x : (Nat × Nat) × Nat => (keyP x.1, V.int (x.2 : Int))) = fun x => decide (x.1 = k) := funext fun x => by
    show decide (keyP x.1 = keyP k) = decide (x.1 = k)
    by_cases h : x.1 = k
    · rw [decide_eq_true h, decide_eq_true (keyP_inj.mpr h)]
    · rw [decide_eq_false h, decide_eq_false (fun z => h (keyP_inj.mp z))]
  rw [this]
  cases l.find? fun x => decide (x.1 = k) <;> rfl
theorem putK_kvP (l : List ((Nat × Nat) × Nat)) (k : Nat × Nat) (v : Nat) : putK (kvP l) (keyP k) (.int (v : Int)) = kvP (putP l k v) := by
  unfold putK kvP putP
  have h1 : ((l.map fun x : (Nat × Nat) × Nat => (keyP x.1, V.int (x.2 : Int))).any fun kv => decide (kv.1 = keyP k)) = l.any fun x => decide (x.1 = k) := by
    rw [List.any_map]
    congr 1
    funext x
    show decide (keyP x.1 = keyP k) = decide (x.1 = k)
    by_cases h : x.1 = k
    · rw [decide_eq_true h, decide_eq_true (keyP_inj.mpr h)]
    · rw [decide_eq_false h, decide_eq_false (fun z => h (keyP_inj.mp z))]
  rw [h1]
  split
  · rw [List.map_map, List.map_map]
    refine List.map_congr_left fun x _ => ?_
    show (if keyP x.1 = keyP k then (keyP x.1, V.int (v : Int)) else (keyP x.1, V.int (x.2 : Int))) = _
    show _ = (keyP (if x.1 = k then (x.1, v) else x).1, V.int ((if x.1 = k then (x.1, v) else x).2 : Int))
    by_cases h : x.1 = k
    · rw [if_pos (keyP_inj.mpr h), if_pos h]
    · rw [if_neg (fun z => h (keyP_inj.mp z)), if_neg h]
  · rw [List.map_append]
    rfl
section
variable {P : Program} {w : World} {K : PySem.W.Frag} {F : Ent} {B H : Hp} {L : Led} {a b : Addr}
theorem v_getPair {Q : VK} {l : List ((Nat × Nat) × Nat)} {k : Nat × Nat} (h : H a = some (.dT (kvP l))) (hb : H b = some (.tup [.int (k.1 : Int), .int (k.2 : Int)])) (q : Q (.int (getP l k : Int)) H) : MetU P w K "dict.get" (.ref a) [.ref b, .int 0] H Q := by
  refine v_get2 (o := valV (kvP l) (keyP k)) (.inr ⟨kvP l, keyP k, b, .inl h, rfl, hb, rfl⟩) ?_
  rw [valV_kvP]
  exact q
theorem v_setPairN {Q : Hp → Prop} {l : List ((Nat × Nat) × Nat)} {k : Nat × Nat} {v : Nat} (n : Nat) (S : Ok F B L H) (h : L[n]? = some (a, .dT (kvP l))) (hb : H b = some (.tup [.int (k.1 : Int), .int (k.2 : Int)])) (hz : l.length < sizeLine) (q : ∀ H', Ok F B (L.set n (a, .dT (kvP (putP l k v)))) H' → Q H') : SetU P w K (.ref a) (.ref b) (.int (v : Int)) H Q := by
  refine v_setD (.inr ⟨kvP l, keyP k, b, (S.own _ (List.mem_of_getElem? h)).1, rfl, hb, by unfold kvP; rw [List.length_map]; exact hz, rfl⟩) ?_
  rw [putK_kvP]
  exact q _ (S.mutN n h)
end
end WK
namespace WK
open PySem PySem.Spec PyProof.Rows L2 PM
section
variable {CQ : Addr} {A : AQ} {x y x' y' : Addr × HO}
theorem QL_len : (QL CQ A).length = A.ws.length + 3 := by
  show (A.ws.map wqC).length + 1 + 1 + 1 = _
  rw [List.length_map]
theorem QL_d : (QL CQ A ++ [x, y])[A.ws.length + 3]? = some x := by
  rw [List.getElem?_append_right (by rw [QL_len]; exact Nat.le_refl _), QL_len, Nat.sub_self]
  rfl
theorem QL_e : (QL CQ A ++ [x, y])[A.ws.length + 4]? = some y := by
  rw [List.getElem?_append_right (by rw [QL_len]; omega), QL_len, show A.ws.length + 4 - (A.ws.length + 3) = 1 from by omega]
  rfl
theorem QL_setd : (QL CQ A ++ [x, y]).set (A.ws.length + 3) x' = QL CQ A ++ [x', y] := by
  rw [List.set_append_right _ _ (by rw [QL_len]; exact Nat.le_refl _), QL_len, Nat.sub_self]
  rfl
theorem QL_sete : (QL CQ A ++ [x, y]).set (A.ws.length + 4) y' = QL CQ A ++ [x, y'] := by
  rw [List.set_append_right _ _ (by rw [QL_len]; omega), QL_len, show A.ws.length + 4 - (A.ws.length + 3) = 1 from by omega]
  rfl
def AQ.fr (A : AQ) (m : Nat) (e : Int) : AQ := { A with free := A.free.set m e }
theorem QL_fr (m : Nat) (e : Int) (R : Led) : (QL CQ A ++ R).set 2 (A.fa, .lst ((A.free.map V.int).set m (.int e))) = QL CQ (A.fr m e) ++ R := by
  show (A.q, HO.ins CQ A.dx (qF A)) :: (A.wa, HO.lst (A.ws.map fun x => V.ref x.a)) :: (A.fa, HO.lst ((A.free.map V.int).set m (.int e))) :: (A.ws.map wqC ++ R) = (A.q, HO.ins CQ A.dx (qF A)) :: (A.wa, HO.lst (A.ws.map fun x => V.ref x.a)) :: (A.fa, HO.lst ((A.free.set m e).map V.int)) :: (A.ws.map wqC ++ R)
  rw [List.map_set]
end
end WK
namespace WK
open PySem PySem.Spec PyProof.Rows L2 PM
theorem Ok.right {F : Ent} {B H : Hp} : ∀ {L1 L2 : Led}, Ok F B (L1 ++ L2) H → Ok F B L2 H
  | [], _, S => S
  | _ :: L1, _, S => Ok.right (L1 := L1) (Ok.drop S)
theorem bmDT {K : PySem.W.Frag} {t : TA} {σ : L2.St} {Q : VK} {a : Addr} {H : Hp} {r : V → List V → Hp → VK → Prop} {kvs : List (List Key × V)} (h : H a = some (.dT kvs)) (k : t σ H fun xs H2 => r (.ref a) xs H2 Q) : BmQ K "dict" r t σ Q (.ref a) H := ⟨.inr (.inr (.inl ⟨rfl, .inr ⟨kvs, h⟩⟩)), k⟩
end WK
namespace WK
open PySem PySem.Spec PyProof.Rows L2 PM
/-- xs[i] of xs[i] += e -/
theorem v_getLst {P : Program} {w : World} {K : PySem.W.Frag} {a : Addr} {xs : List V} {j : Nat} {v : V} {H : Hp} {Q : VK} (h : SqL K H a xs) (hv : xs[j]? = some v) (k : Q v H) : GetU P w K (.ref a) (.int (j : Int)) H Q := by
  intro X pins s σ ov iv al I r1 r2
  obtain ⟨rfl, rfl, rfl, hc, hu⟩ := al
  obtain rfl : ov = Value.ref a := r1
  obtain ⟨t, rfl⟩ := r2
  obtain ⟨its, rs, pl, hz⟩ := I.list h
  obtain ⟨u, hu2, ru⟩ := rs.get hv
  have hj := (List.getElem?_eq_some_iff.mp hv).1
  rw [sizeLine_eq] at hz
  refine PySem.wpAny_getItem_list (x := u) pl.isList (by omega) (by omega) (by rw [Int.toNat_natCast]; simpa using hu2) ?_
  exact ⟨v, H, I, ru, k⟩
end WK

/-! pieces' names: a dict of pairs by pairs; parts of a row's tuple -/
namespace PM
open PySem PySem.Spec PyProof.Rows L2 WK
def phi (nm : List (Kp × Kp)) (k : Kp) : Kp := ((nm.find? fun x => decide (x.1 = k)).map (·.2)).getD (0, 0)
/-- the names of the pieces of a new order of so many -/
def newN (L k d f : Nat) : List (Kp × Kp) := (List.range f).map fun j => ((L, j), (k, d + j))
/-- what the names tell -/
structure NmOk (L : Nat) (nm : List (Kp × Kp)) : Prop where
  nd : (nm.map (·.1)).Nodup
  lt : ∀ x ∈ nm, x.1.1 < L
theorem NmOk.nil : NmOk 0 [] := ⟨List.nodup_nil, fun _ h => nomatch h⟩
theorem NmOk.add {L : Nat} {nm : List (Kp × Kp)} (h : NmOk L nm) (k d f : Nat) : NmOk (L + 1) (nm ++ newN L k d f) := by
  refine ⟨?_, fun x hx => ?_⟩
  · rw [List.map_append, List.nodup_append]
    refine ⟨h.nd, ?_, fun a ha b hb e => ?_⟩
    · unfold newN
      rw [List.map_map]
      exact List.nodup_range.map (f := (fun x : Kp × Kp => x.1) ∘ fun j => ((L, j), (k, d + j))) fun a b hab h => hab (by
        have h : ((L, a) : Kp) = (L, b) := h
        exact congrArg Prod.snd h)
    · obtain ⟨x, hx, rfl⟩ := List.mem_map.mp ha
      obtain ⟨y, hy, rfl⟩ := List.mem_map.mp hb
      obtain ⟨j, _, rfl⟩ := List.mem_map.mp hy
      have := h.lt x hx
      rw [e] at this
      exact Nat.lt_irrefl _ this
  · rcases List.mem_append.mp hx with hx | hx
    · exact Nat.lt_succ_of_lt (h.lt x hx)
    · obtain ⟨j, _, rfl⟩ := List.mem_map.mp hx
      exact Nat.lt_succ_self _
/-- orders as the law draws them -/
structure OrB (rs : List PRow) (most : Int) (t : Int) (os : List Or) : Prop where
  part : ∀ x ∈ os, ∃ r, PM.rowOf rs x.1 = some r
  many : ∀ x ∈ os, 1 ≤ x.2.1 ∧ x.2.1 ≤ most
  min : ∀ x ∈ os, 0 ≤ x.2.2 ∧ x.2.2 ≤ t
  up : ∀ (i : Nat) (x y : Or), os[i]? = some x → os[i + 1]? = some y → x.2.2 ≤ y.2.2
theorem OrB.nil {rs : List PRow} {most : Int} : OrB rs most 0 [] := ⟨(fun _ h => nomatch h), (fun _ h => nomatch h), (fun _ h => nomatch h), fun i x y h _ => by simp at h⟩
theorem OrB.late {rs : List PRow} {most t t' : Int} {os : List Or} (h : OrB rs most t os) (ht : t ≤ t') : OrB rs most t' os := ⟨h.part, h.many, fun x hx => ⟨(h.min x hx).1, Int.le_trans (h.min x hx).2 ht⟩, h.up⟩
theorem OrB.snoc {rs : List PRow} {most t : Int} {os : List Or} (h : OrB rs most t os) {y : Or} (hp : ∃ r, PM.rowOf rs y.1 = some r) (hm : 1 ≤ y.2.1 ∧ y.2.1 ≤ most) (ht : 0 ≤ t) (hy : y.2.2 = t) : OrB rs most t (os ++ [y]) := by
  have go : ∀ {p : Or → Prop}, (∀ x ∈ os, p x) → p y → ∀ x ∈ os ++ [y], p x := fun h1 h2 x hx => by
    rcases List.mem_append.mp hx with hx | hx
    · exact h1 x hx
    · rw [List.mem_singleton.mp hx]; exact h2
  refine ⟨go h.part hp, go h.many hm, go h.min ⟨by omega, by omega⟩, fun i x z hx hz => ?_⟩
  by_cases hi : i + 1 < os.length
  · rw [List.getElem?_append_left (by omega)] at hx
    rw [List.getElem?_append_left hi] at hz
    exact h.up i x z hx hz
  · have hil := (List.getElem?_eq_some_iff.mp hz).1
    rw [List.length_append, List.length_singleton] at hil
    have : i + 1 = os.length := by omega
    rw [this, List.getElem?_append_right (Nat.le_refl _), Nat.sub_self] at hz
    cases hz
    rw [List.getElem?_append_left (by omega)] at hx
    rw [hy]
    exact (h.min x (List.mem_of_getElem? hx)).2
theorem OrB.ok {rs : List PRow} {most t : Int} {os : List Or} (h : OrB rs most t os) (hm : most ≤ 999) (ht : t ≤ 9999) (hl : os.length ≤ 1000) : OrsOk rs os := ⟨h.part, fun x hx => ⟨(h.many x hx).1, Int.le_trans (h.many x hx).2 hm⟩, fun x hx => ⟨(h.min x hx).1, Int.le_trans (h.min x hx).2 ht⟩, h.up, hl⟩
end PM
namespace WK
open PySem PySem.Spec PyProof.Rows L2 PM
/-- the dict of names -/
inductive NmKV (B : Hp) : List (List Key × V) → List (Kp × Kp) → Prop
  | nil : NmKV B [] []
  | cons {k v : Kp} {T : Addr} {kvs : List (List Key × V)} {nm : List (Kp × Kp)} : B T = some (.tup [.int (v.1 : Int), .int (v.2 : Int)]) → NmKV B kvs nm → NmKV B ((keyP k, .ref T) :: kvs) ((k, v) :: nm)
theorem NmKV.up {B B' : Hp} {kvs : List (List Key × V)} {nm : List (Kp × Kp)} (e : Ex B B') (h : NmKV B kvs nm) : NmKV B' kvs nm := by
  induction h with
  | nil => exact .nil
  | cons h _ ih => exact .cons (e _ _ h) ih
theorem NmKV.len {B : Hp} {kvs : List (List Key × V)} {nm : List (Kp × Kp)} (h : NmKV B kvs nm) : kvs.length = nm.length := by
  induction h with
  | nil => rfl
  | cons _ _ ih => exact congrArg (· + 1) ih
theorem NmKV.snoc {B : Hp} {kvs : List (List Key × V)} {nm : List (Kp × Kp)} {k v : Kp} {T : Addr} (h : NmKV B kvs nm) (hT : B T = some (.tup [.int (v.1 : Int), .int (v.2 : Int)])) : NmKV B (kvs ++ [(keyP k, .ref T)]) (nm ++ [(k, v)]) := by
  induction h with
  | nil => exact .cons hT .nil
  | cons h _ ih => exact .cons h ih
theorem NmKV.put {B : Hp} {kvs : List (List Key × V)} {nm : List (Kp × Kp)} {k : Kp} {x : V} (h : NmKV B kvs nm) (hn : ∀ y ∈ nm, y.1 ≠ k) : putK kvs (keyP k) x = kvs ++ [(keyP k, x)] := by
  unfold putK
  have : (kvs.any fun kv => decide (kv.1 = keyP k)) = false := by
    induction h with
    | nil => rfl
    | @cons k' v T kvs nm _ _ ih =>
      rw [List.any_cons, ih fun y hy => hn y (.tail _ hy), Bool.or_false]
      exact decide_eq_false fun e => hn _ (.head _) (keyP_inj.mp e)
  rw [this, if_neg (by decide)]
theorem NmKV.get {B : Hp} {kvs : List (List Key × V)} {nm : List (Kp × Kp)} {k v : Kp} (h : NmKV B kvs nm) (hm : (k, v) ∈ nm) : ∃ T, valV kvs (keyP k) = some (.ref T) ∧ B T = some (.tup [.int ((phi nm k).1 : Int), .int ((phi nm k).2 : Int)]) := by
  induction h with
  | nil => cases hm
  | @cons k' v' T kvs nm hT _ ih =>
    unfold valV phi
    by_cases e : k' = k
    · subst e
      rw [List.find?_cons_of_pos (by exact decide_eq_true rfl), List.find?_cons_of_pos (by exact decide_eq_true rfl)]
      exact ⟨T, rfl, hT⟩
    · rw [List.find?_cons_of_neg (by simpa using fun z => e (keyP_inj.mp z)), List.find?_cons_of_neg (by simpa using e)]
      rcases List.mem_cons.mp hm with hm | hm
      · exact absurd (congrArg Prod.fst hm).symm e
      · exact ih hm
section
variable {P : Program} {w : World} {K : PySem.W.Frag} {F : Ent} {B H : Hp} {L : Led} {Q : VK} {a b : Addr} {x : V}
end
end WK

/-! the first that is the same taken out of a list of data of one kind; max of ints -/
namespace WK
open PySem PySem.Spec PyProof.Rows L2 PM
theorem eqv_Cd (x y : Cd) : PyData.eqv (encCd x) (encCd y) = decide (x = y) := by
  obtain ⟨a, b, c, d⟩ := x
  obtain ⟨e, f, g, h⟩ := y
  simp only [encCd, PyData.eqv, PyData.eqvAll, Bool.and_true]
  have h1 : ∀ i j : Int, (i == j) = decide (i = j) := fun i j => rfl
  have h2 : ∀ i j : Nat, ((i : Int) == (j : Int)) = decide (i = j) := fun i j => by
    rw [h1, Bool.eq_iff_iff, decide_eq_true_iff, decide_eq_true_iff]
    omega
  rw [h1, h2, h2, h2, Bool.eq_iff_iff]
  simp only [Bool.and_eq_true, decide_eq_true_iff, Prod.mk.injEq]
theorem plain_Cd (x : Cd) : (encCd x).plain = true := by simp [encCd, PyData.plain, PyData.plainAll]
/-- a comprehension inside another one -/
theorem relabel_cf {env : Env} : ∀ {names : List (Str × NameKind)} {x : Str}, (names.lookup x = some .cell ∨ names.lookup x = some .free) →
    ((names.map fun (n, k) => if (k == NameKind.free && env.scope.kind == .function && env.kindOf n == some .cell) then (n, NameKind.cell) else (n, k)).lookup x = some .cell ∨ (names.map fun (n, k) => if (k == NameKind.free && env.scope.kind == .function && env.kindOf n == some .cell) then (n, NameKind.cell) else (n, k)).lookup x = some .free)
  | [], _, h => by simp at h
  | (n, k) :: r, x, h => by
    have ih := @relabel_cf env r x
    rw [List.map_cons]
    cases hx : x == n with
    | true =>
      simp only [List.lookup_cons, hx, Option.some.injEq] at h
      dsimp only
      split
      · exact .inl (by simp only [List.lookup_cons, hx])
      · rcases h with rfl | rfl
        · exact .inl (by simp only [List.lookup_cons, hx])
        · exact .inr (by simp only [List.lookup_cons, hx])
    | false =>
      simp only [List.lookup_cons, hx] at h
      have := ih h
      dsimp only
      split <;> (simp only [List.lookup_cons, hx]; exact this)
theorem blkOk_in {X : Cx} {s : Shared} {H : Hp} {sc0 : Scope} {cl : List (Str × Addr)} {C : Addr} {e : Env} {fp : List Addr} {N : List Str} {scope : Scope} {own : List (Str × Nat)} (h : blkC N sc0 scope own = true) : BlkOk N (X.blk s H sc0 (compEnvC sc0 cl C e) fp).env.scope scope own := by
  obtain ⟨h1, h2, h3, h4, h5⟩ := blkOk_by h
  exact ⟨h1, h2, h3, fun y hy hf => relabel_cf (env := e) (h4 y hy hf), h5⟩
section
variable {P : Program} {w : World} {K : PySem.W.Frag} {F : Ent} {B H : Hp} {L : Led} {Q : VK} {a : Addr}
theorem v_remA {α : Type} [BEq α] [LawfulBEq α] [DecidableEq α] {enc : α → PyData} {ws : List α} {m : α} {xs : List V} {y : V} (heq : ∀ x y, PyData.eqv (enc x) (enc y) = decide (x = y)) (hpl : ∀ x, (enc x).plain = true) (hdp : ∀ x, (enc x).depth ≤ 2) (n : Nat) (S : Ok F B L H) (hn : L[n]? = some (a, .lst xs)) (hd : DpAll K B xs (ws.map enc)) (hy : Dp K B y (enc m)) (hm : m ∈ ws) (k : ∀ ys H', DpAll K B ys ((ws.erase m).map enc) → Ok F B (L.set n (a, .lst ys)) H' → Q .non H') : MetU P w K "list.remove" (.ref a) [y] H Q := by
  have hf : PySem.SeqAt.dataPlace (ws.map enc) (enc m) = some (ws.idxOf m) := by
    unfold PySem.SeqAt.dataPlace
    rw [List.findIdx?_map]
    have : (fun y => PyData.eqv y (enc m)) ∘ enc = fun y => decide (y = m) := funext fun y => heq y m
    rw [this, List.findIdx?_eq_some_iff_findIdx_eq]
    have e : List.findIdx (fun y => decide (y = m)) ws = ws.idxOf m := by
      unfold List.idxOf
      congr 1
      funext x
      by_cases h : x = m
      · rw [decide_eq_true h, h]
        exact (beq_self_eq_true m).symm
      · rw [decide_eq_false h]
        exact (beq_eq_false_iff_ne.mpr h).symm
    exact ⟨List.idxOf_lt_length_iff.mpr hm, e⟩
  refine .ofK (r := rRemD) (fun _ al => mt_removeD al.hu64) ⟨a, xs, ws.map enc, y, enc m, ws.idxOf m, rfl, rfl, (S.own _ (List.mem_of_getElem? hn)).1, hd.up S.ex, hy.up S.ex, plain_map hpl ws, hpl m, Nat.le_trans (hdp m) (by decide), hf, ?_⟩
  refine k _ _ ?_ (S.mutN n hn)
  rw [List.erase_eq_eraseIdx_of_idxOf rfl]
  have go : ∀ (ds : List PyData) (vs : List V) (j : Nat), DpAll K B vs ds → DpAll K B (vs.eraseIdx j) (ds.eraseIdx j) := by
    intro ds
    induction ds with
    | nil => intro vs j h; cases h; exact .nil
    | cons d ds ih =>
      intro vs j h
      cases h with
      | cons h t =>
        cases j with
        | zero => exact t
        | succ j => exact .cons h (ih _ j t)
  have me : ∀ (as : List α) (j : Nat), (as.map enc).eraseIdx j = (as.eraseIdx j).map enc := by
    intro as
    induction as with
    | nil => intro j; rfl
    | cons x as ih =>
      intro j
      cases j with
      | zero => rfl
      | succ j => exact congrArg (enc x :: ·) (ih j)
  rw [← me]
  exact go _ _ _ hd
theorem v_maxI {ns : List Int} (h : SqL K H a (ns.map V.int)) (hn : 0 < ns.length) (k : ∀ m, m ∈ ns → (∀ y, y ∈ ns → y ≤ m) → Q (.int m) H) : CallU P w K (.builtin "max") [.ref a] H Q := .ofK (r := rMax) (fun _ al => cr_max al.calm) ⟨a, ns, rfl, h, hn, k⟩
end
end WK

local macro_rules | `(tactic| kts_caughtN) => `(tactic| first
  | with_reducible assumption
  | ((with_reducible refine' WK.Ex.ap ?kx ?ky); (case kx => with_reducible assumption); (case ky => kts_caughtN))
  | ((with_reducible refine' WK.Ex.sqL ?kx ?ky); (case kx => with_reducible assumption); (case ky => kts_caughtN))
  | ((with_reducible refine' WK.Ex.sqT ?kx ?ky); (case kx => with_reducible assumption); (case ky => kts_caughtN))
  | ((with_reducible refine' L2.Dp.up ?kx ?ky); (case kx => with_reducible assumption); (case ky => kts_caughtN))
  | ((with_reducible refine' WK.Dpl.up ?kx ?ky); (case kx => with_reducible assumption); (case ky => kts_caughtN))
  | ((with_reducible refine' L2.DpAll.up ?kx ?ky); (case kx => with_reducible assumption); (case ky => kts_caughtN)))
local macro_rules | `(tactic| nest_cls) => `(tactic| first
  | ((repeat (first
    | with_reducible exact List.Mem.head _
    | with_reducible refine' List.Mem.tail _ ?_
    | with_reducible exact WK.mF
    | with_reducible exact WK.mFl
    | with_reducible exact WK.mFp
    | with_reducible exact WK.mFn
    | ((with_reducible refine' WK.mFpc ?kz); (case kz => with_reducible assumption))
    | ((with_reducible refine' WK.mFpl ?kz); (case kz => with_reducible assumption))
    | ((with_reducible refine' WK.mFpp ?kz); (case kz => with_reducible assumption))
    | ((with_reducible refine' WK.mFpcE ?kz ?ke); (case kz => with_reducible assumption); (case ke => exact rfl))
    | ((with_reducible refine' WK.mFplE ?kz ?ke); (case kz => with_reducible assumption); (case ke => exact rfl))
    | ((with_reducible refine' WK.mFppE ?kz ?ke); (case kz => with_reducible assumption); (case ke => exact rfl))
    | ((with_reducible refine' WK.mFlot ?kz); (case kz => with_reducible assumption))
    | with_reducible exact WK.mW
    | with_reducible exact WK.mWl
    | with_reducible exact WK.mWp
    | with_reducible exact WK.mWb
    | ((with_reducible refine' WK.mWlotA ?kz); (case kz => with_reducible assumption))
    | ((with_reducible refine' WK.mWpcA ?kz); (case kz => with_reducible assumption))
    | ((with_reducible refine' WK.mWpcH ?kz); (case kz => with_reducible assumption)))); done)
  | mem_news
  | ((with_reducible refine' List.Mem.tail _ ?kz); (case kz => nest_cls)))
local macro_rules | `(tactic| kts_caught) => `(tactic| first
  | with_reducible assumption
  | ((with_reducible refine' WK.Ok.mem ?kx ?ky); (case kx => with_reducible assumption); (case ky => nest_cls))
  | ((with_reducible refine' WK.Ok.sqMem ?kx ?ky); (case kx => with_reducible assumption); (case ky => nest_cls))
  | ((with_reducible refine' WK.Ok.sqStay ?kx ?ky); (case kx => with_reducible assumption); (case ky => kts_caughtN))
  | ((with_reducible refine' WK.Ok.sqB ?kx ?ky); (case kx => with_reducible assumption); (case ky => kts_caughtN))
  | ((with_reducible refine' WK.Ok.tqStay ?kx ?ky); (case kx => with_reducible assumption); (case ky => kts_caughtN))
  | ((with_reducible refine' WK.Ok.tqB ?kx ?ky); (case kx => with_reducible assumption); (case ky => kts_caughtN))
  | ((with_reducible refine' WK.Ok.stay ?kx ?ky); (case kx => with_reducible assumption); (case ky => kts_caughtN))
  | ((with_reducible refine' WK.Ok.dp ?kx ?ky); (case kx => with_reducible assumption); (case ky => kts_caughtN))
  | ((with_reducible refine' WK.Ok.rdMem ?kx ?ky); (case kx => with_reducible assumption); (case ky => nest_cls))
  | ((with_reducible refine' WK.Ok.rdMemF ?kx ?ky); (case kx => with_reducible assumption); (case ky => nest_cls))
  | ((with_reducible refine' WK.Ok.rdStayF ?kx ?ky); (case kx => with_reducible assumption); (case ky => kts_caughtN))
  | ((with_reducible refine' WK.Ok.rdStay ?kx ?ky); (case kx => with_reducible assumption); (case ky => kts_caughtN))
  | ((with_reducible refine' WK.Ok.kept ?kx ?ky); (case kx => with_reducible assumption); (case ky => with_reducible assumption))
  | ((with_reducible refine' WK.Ok.keptRd ?kx ?ky); (case kx => with_reducible assumption); (case ky => with_reducible assumption))
  | ((with_reducible refine' WK.Ok.sqKept ?kx ?ky); (case kx => with_reducible assumption); (case ky => with_reducible assumption))
  | ((with_reducible refine' WK.sqAt ?kx); (case kx => with_reducible assumption))
  | ((with_reducible refine' WK.rdAt ?kx); (case kx => kts_caught)))
local macro_rules | `(tactic| nest_room) => `(tactic| first
  | with_reducible assumption
  | with_reducible exact WK.Ex.refl _
  | ((with_reducible refine' WK.Ex.trans ?kx ?ky); (case ky => with_reducible assumption); (case kx => nest_room)))
local macro_rules | `(tactic| nest_fact) => `(tactic| first
  | with_reducible assumption
  | ((with_reducible refine' L2.Dp.up ?kx ?ky); (case ky => with_reducible assumption); (case kx => nest_room))
  | ((with_reducible refine' L2.DpAll.up ?kx ?ky); (case ky => with_reducible assumption); (case kx => nest_room))
  | ((with_reducible refine' WK.Dpl.up ?kx ?ky); (case ky => with_reducible assumption); (case kx => nest_room))
  | ((with_reducible refine' WK.Ex.ap ?kx ?ky); (case ky => with_reducible assumption); (case kx => nest_room))
  | ((with_reducible refine' WK.Ex.sqL ?kx ?ky); (case ky => with_reducible assumption); (case kx => nest_room))
  | ((with_reducible refine' WK.Ex.sqT ?kx ?ky); (case ky => with_reducible assumption); (case kx => nest_room))
  | nest_room)
local macro_rules | `(tactic| tb_start) => `(tactic| with_reducible refine' WK.r_rSub ?_)
local macro_rules | `(tactic| tb_start) => `(tactic| with_reducible refine' WK.r_rAdd ?_)
local macro_rules | `(tactic| tb_start) => `(tactic| with_reducible refine' WK.r_rU ?_)
local macro_rules | `(tactic| tb_start) => `(tactic| with_reducible refine' WK.v_ipSub ?_)
local macro_rules | `(tactic| tb_start) => `(tactic| with_reducible refine' WK.v_ipAdd ?_)
local macro_rules | `(tactic| tb_start) => `(tactic| ((with_reducible refine' WK.v_get2S ?k1 ?_); (case k1 => kts_caught)))
local macro_rules | `(tactic| tb_start) => `(tactic| with_reducible refine' WK.v_min2 ?_)
local macro_rules | `(tactic| tb_start) => `(tactic| with_reducible refine' WK.v_max2 ?_)
local macro_rules | `(tactic| tb_start) => `(tactic| ((with_reducible refine' WK.v_lenT ?k1 ?_); (case k1 => kts_caught)))
local macro_rules | `(tactic| tb_start) => `(tactic| ((with_reducible refine' WK.v_lenL ?k1 ?_); (case k1 => kts_caught)))
local macro_rules | `(tactic| tb_start) => `(tactic| ((with_reducible refine' WK.v_lenDW ?k1 ?k2 ?_); (case k1 => with_reducible assumption); (case k2 => kts_caughtN)))
local macro_rules | `(tactic| tb_start) => `(tactic| ((with_reducible refine' WK.v_lenDT ?k1 ?k2 ?_); (case k1 => with_reducible assumption); (case k2 => kts_caughtN)))
local macro_rules | `(tactic| tb_start) => `(tactic| ((with_reducible refine' WK.v_lenDL ?k1 ?k2 ?_); (case k1 => with_reducible assumption); (case k2 => kts_caughtN)))
local macro_rules | `(tactic| tb_start) => `(tactic| ((with_reducible refine' WK.v_lenS ?k1 ?_); (case k1 => first | with_reducible assumption | (rw [PySem.sizeLine_eq]; omega) | (simp only [PySem.sizeLine_eq]; omega))))
local macro_rules | `(tactic| tb_start) => `(tactic| with_reducible refine' WK.v_intBl ?_)
local macro_rules | `(tactic| tb_start) => `(tactic| ((with_reducible refine' WK.v_ixDS ?k1 ?k2 ?_); (case k1 => kts_caught); (case k2 => with_reducible first | exact WK.wk_needs | exact WK.wk_steps | exact WK.wk_rates | exact WK.wk_lots | exact WK.wk_pieces | exact WK.wk_lost | exact WK.wk_paid | exact WK.wk_book | exact WK.mk_part | exact WK.mk_state | exact WK.mk_at | exact WK.mk_minutes | exact WK.mk_holds | exact WK.mk_client)))
local macro_rules | `(tactic| tb_start) => `(tactic| ((with_reducible refine' WK.v_ixT ?k1 ?k2 ?_); (case k1 => kts_caught); (case k2 => exact rfl)))
local macro_rules | `(tactic| tb_start) => `(tactic| ((with_reducible refine' WK.v_ixL ?k1 ?k2 ?_); (case k1 => kts_caught); (case k2 => exact rfl)))
local macro_rules | `(tactic| tb_start) => `(tactic| ((with_reducible refine' WK.v_notInDS ?k1 ?_); (case k1 => kts_caught)))
local macro_rules | `(tactic| tb_start) => `(tactic| ((with_reducible refine' WK.v_inDS ?k1 ?_); (case k1 => kts_caught)))
local macro_rules | `(tactic| tb_start) => `(tactic| with_reducible refine' WK.v_inSign ?_)
local macro_rules | `(tactic| tb_start) => `(tactic| with_reducible refine' WK.v_neS ?_)
local macro_rules | `(tactic| tb_start) => `(tactic| with_reducible refine' WK.v_neI ?_)
local macro_rules | `(tactic| tb_start) => `(tactic| with_reducible refine' WK.v_eqS ?_)
local macro_rules | `(tactic| tb_start) => `(tactic| with_reducible refine' WK.v_eqI ?_)
local macro_rules | `(tactic| tb_start) => `(tactic| with_reducible refine' WK.v_ge ?_)
local macro_rules | `(tactic| tb_start) => `(tactic| with_reducible refine' WK.v_gt ?_)
local macro_rules | `(tactic| tb_start) => `(tactic| with_reducible refine' WK.v_le ?_)
local macro_rules | `(tactic| tb_start) => `(tactic| with_reducible refine' WK.v_lt ?_)
local macro_rules | `(tactic| tb_start) => `(tactic| ((with_reducible refine' WK.v_pow ?k1 ?_); (case k1 => exact ⟨by decide, by decide, by decide⟩)))
local macro_rules | `(tactic| tb_start) => `(tactic| ((with_reducible refine' WK.v_fdiv ?k1 ?_); (case k1 => first | exact ⟨by decide, by decide⟩ | exact ⟨by omega, by omega⟩ | exact ⟨by simp only [List.length_map]; omega, by simp only [List.length_map]; omega⟩)))
local macro_rules | `(tactic| tb_start) => `(tactic| ((with_reducible refine' WK.v_mod ?k1 ?_); (case k1 => first | decide | omega | (simp only [List.length_map, List.length_append, List.length_cons, List.length_nil, List.length_set]; omega))))
local macro_rules | `(tactic| tb_start) => `(tactic| ((with_reducible refine' WK.v_mul ?k1 ?_); (case k1 => first | exact Or.inr ⟨by decide, by decide⟩ | exact Or.inl ⟨by decide, by decide⟩ | exact Or.inr ⟨by omega, by omega⟩ | exact Or.inl ⟨by omega, by omega⟩)))
local macro_rules | `(tactic| tb_start) => `(tactic| with_reducible refine' WK.v_sub ?_)
local macro_rules | `(tactic| tb_start) => `(tactic| with_reducible refine' WK.v_add ?_)
local macro_rules | `(tactic| tb_start) => `(tactic| with_reducible refine' WK.r_par33 ?_)
local macro_rules | `(tactic| tb_start) => `(tactic| with_reducible refine' WK.r_par2 ?_)
local macro_rules | `(tactic| tb_start) => `(tactic| with_reducible refine' WK.r_gnil ?_)
local macro_rules | `(tactic| tb_start) => `(tactic| with_reducible refine' WK.r_gcons ?_)
local macro_rules | `(tactic| tb_start) => `(tactic| ((with_reducible refine' WK.afdQ ?k1 ?k2 ?k3 ?k4 ?_); (case k1 => kts_caught); (case k2 => with_reducible assumption); (case k3 => with_reducible assumption); (case k4 => exact rfl)))
local macro_rules | `(tactic| tb_start) => `(tactic| with_reducible refine' WK.strQ ?_)
local macro_rules | `(tactic| tb_start) => `(tactic| with_reducible refine' WK.r_in ?_)
local macro_rules | `(tactic| tb_start) => `(tactic| ((with_reducible refine' WK.mthXQ ?k1 ?k2 ?_); (case k1 => kts_caught); (case k2 => exact rfl)))
local macro_rules | `(tactic| tb_start) => `(tactic| ((with_reducible refine' WK.mthQ ?k1 ?k2 ?_); (case k1 => kts_caught); (case k2 => exact rfl)))
local macro_rules | `(tactic| tb_start) => `(tactic| ((with_reducible refine' WK.bmD ?k1 ?_); (case k1 => kts_caught)))
local macro_rules | `(tactic| tb_start) => `(tactic| ((with_reducible refine' WK.bmL ?k1 ?_); (case k1 => kts_caught)))
local macro_rules | `(tactic| tb_start) => `(tactic| with_reducible refine' WK.bmS ?_)
local macro_rules | `(tactic| tb_start) => `(tactic| ((with_reducible refine' WK.fldQ ?k1 ?k2 ?k3 ?k4 ?_); (case k1 => kts_caught); (case k2 => with_reducible assumption); (case k3 => with_reducible assumption); (case k4 => exact rfl)))
local macro_rules | `(tactic| tb_start) => `(tactic| with_reducible refine' WK.r_bl ?_)
local macro_rules | `(tactic| tb_start) => `(tactic| ((with_reducible show ite _ _ _); first
  | (with_reducible refine' WK.ifTT ?_)
  | (with_reducible refine' WK.ifFF ?_)
  | (with_reducible refine' WK.ifNT ?_)
  | (with_reducible refine' WK.ifNF ?_)
  | ((with_reducible refine' WK.ifdT ?k1 ?_); (case k1 => first | with_reducible assumption | omega | (simp only [List.length_map, List.length_append, List.length_cons, List.length_nil, List.length_set]; omega)))
  | ((with_reducible refine' WK.ifdF ?k1 ?_); (case k1 => first | with_reducible assumption | omega | (simp only [List.length_map, List.length_append, List.length_cons, List.length_nil, List.length_set]; omega)))
  | ((with_reducible refine' WK.ifndT ?k1 ?_); (case k1 => first | with_reducible assumption | omega | (simp only [List.length_map, List.length_append, List.length_cons, List.length_nil, List.length_set]; omega)))
  | ((with_reducible refine' WK.ifndF ?k1 ?_); (case k1 => first | with_reducible assumption | omega | (simp only [List.length_map, List.length_append, List.length_cons, List.length_nil, List.length_set]; omega)))))
local macro_rules | `(tactic| tb_start) => `(tactic| with_reducible refine' WK.r_rzT ?_)
local macro_rules | `(tactic| tb_start) => `(tactic| with_reducible refine' WK.r_rzK ?_)
local macro_rules | `(tactic| tb_start) => `(tactic| with_reducible refine' WK.r_augS ?_)
local macro_rules | `(tactic| tb_start) => `(tactic| ((with_reducible refine' WK.r_aug ?hh ?_); (case hh => exact rfl)))
local macro_rules | `(tactic| tb_start) => `(tactic| with_reducible refine' WK.r_par3 ?_)
local macro_rules | `(tactic| tb_start) => `(tactic| with_reducible refine' WK.r_par ?_)
local macro_rules | `(tactic| tb_start) => `(tactic| with_reducible refine' WK.r_afld ?_)
local macro_rules | `(tactic| tb_start) => `(tactic| with_reducible refine' WK.r_sfld ?_)
local macro_rules | `(tactic| tb_start) => `(tactic| with_reducible refine' WK.r_for ?_)
local macro_rules | `(tactic| tb_start) => `(tactic| with_reducible refine' WK.r_retN ?_)
local macro_rules | `(tactic| tb_start) => `(tactic| with_reducible refine' WK.r_pnil ?_)
local macro_rules | `(tactic| tb_start) => `(tactic| with_reducible refine' WK.r_pcons ?_)
local macro_rules | `(tactic| tb_start) => `(tactic| with_reducible refine' WK.r_enumV ?_)
local macro_rules | `(tactic| tb_start) => `(tactic| with_reducible refine' WK.r_str ?_)
local macro_rules | `(tactic| tb_start) => `(tactic| with_reducible refine' WK.r_values ?_)
local macro_rules | `(tactic| tb_start) => `(tactic| with_reducible refine' WK.r_keys ?_)
local macro_rules | `(tactic| tb_start) => `(tactic| with_reducible refine' WK.r_items ?_)
local macro_rules | `(tactic| tb_start) => `(tactic| with_reducible refine' WK.r_val ?_)
local macro_rules | `(tactic| tb_start) => `(tactic| with_reducible refine' WK.r_rng1 ?_)
local macro_rules | `(tactic| tb_start) => `(tactic| with_reducible refine' WK.r_part ?_)
local macro_rules | `(tactic| tb_start) => `(tactic| with_reducible refine' WK.r_nopart ?_)
local macro_rules | `(tactic| tb_start) => `(tactic| with_reducible refine' WK.r_yes ?_)
local macro_rules | `(tactic| tb_start) => `(tactic| with_reducible refine' WK.r_not ?_)
local macro_rules | `(tactic| tb_start) => `(tactic| with_reducible refine' WK.r_or ?_)
local macro_rules | `(tactic| tb_start) => `(tactic| with_reducible refine' WK.r_and ?_)
local macro_rules | `(tactic| tb_start) => `(tactic| with_reducible refine' WK.r_test ?_)
local macro_rules | `(tactic| tb_start) => `(tactic| with_reducible refine' WK.r_B ?_)
local macro_rules | `(tactic| tb_start) => `(tactic| with_reducible refine' WK.r_mthX ?_)
local macro_rules | `(tactic| tb_start) => `(tactic| with_reducible refine' WK.r_fnX ?_)
local macro_rules | `(tactic| tb_start) => `(tactic| with_reducible refine' WK.r_chain ?_)
local macro_rules | `(tactic| tb_start) => `(tactic| with_reducible refine' WK.r_revL ?_)
local macro_rules | `(tactic| tb_start) => `(tactic| with_reducible refine' WK.r_frzA ?_)
local macro_rules | `(tactic| tb_start) => `(tactic| with_reducible refine' WK.r_sumVals ?_)
local macro_rules | `(tactic| tb_start) => `(tactic| with_reducible refine' WK.r_sci ?_)
local macro_rules | `(tactic| tb_start) => `(tactic| with_reducible refine' WK.r_dc ?_)
local macro_rules | `(tactic| tb_start) => `(tactic| with_reducible refine' WK.r_lc ?_)
local macro_rules | `(tactic| tb_start) => `(tactic| with_reducible refine' WK.r_bm0 ?_)
local macro_rules | `(tactic| tb_start) => `(tactic| with_reducible refine' WK.r_bm ?_)
local macro_rules | `(tactic| tb_start) => `(tactic| with_reducible refine' WK.r_mk ?_)
local macro_rules | `(tactic| tb_start) => `(tactic| with_reducible refine' WK.r_notV ?_)
local macro_rules | `(tactic| tb_start) => `(tactic| with_reducible refine' WK.r_orV ?_)
local macro_rules | `(tactic| tb_start) => `(tactic| with_reducible refine' WK.r_andV ?_)
local macro_rules | `(tactic| tb_start) => `(tactic| with_reducible refine' WK.r_if ?_)
local macro_rules | `(tactic| tb_start) => `(tactic| with_reducible refine' WK.r_sl ?_)
local macro_rules | `(tactic| tb_start) => `(tactic| with_reducible refine' WK.r_un ?_)
local macro_rules | `(tactic| tb_start) => `(tactic| with_reducible refine' WK.r_tup ?_)
local macro_rules | `(tactic| tb_start) => `(tactic| with_reducible refine' WK.r_lst ?_)
local macro_rules | `(tactic| tb_start) => `(tactic| with_reducible refine' WK.r_mth ?_)
local macro_rules | `(tactic| tb_start) => `(tactic| with_reducible refine' WK.r_cb ?_)
local macro_rules | `(tactic| tb_start) => `(tactic| with_reducible refine' WK.r_fld ?_)
local macro_rules | `(tactic| tb_start) => `(tactic| with_reducible refine' WK.r_fn ?_)
local macro_rules | `(tactic| tb_start) => `(tactic| with_reducible refine' WK.r_gatt ?_)
local macro_rules | `(tactic| tb_start) => `(tactic| with_reducible refine' WK.r_gsub ?_)
local macro_rules | `(tactic| tb_start) => `(tactic| ((with_reducible show L2.gName _ _ _ _ _); (apply WK.r_nameS); (case h => repeat (first | exact WK.SlotSet.zero | apply WK.SlotSet.succ))))
local macro_rules | `(tactic| tb_start) => `(tactic| with_reducible refine' WK.r_drop ?_)
local macro_rules | `(tactic| tb_start) => `(tactic| with_reducible refine' WK.r_ret ?_)
local macro_rules | `(tactic| tb_start) => `(tactic| with_reducible refine' WK.r_next ?_)
local macro_rules | `(tactic| tb_start) => `(tactic| with_reducible refine' WK.r_ifS ?_)
local macro_rules | `(tactic| tb_start) => `(tactic| with_reducible refine' WK.r_asg ?_)
local macro_rules | `(tactic| tb_start) => `(tactic| with_reducible refine' WK.r_seq ?_)
local macro_rules | `(tactic| tb_start) => `(tactic| with_reducible refine' WK.r_nil ?_)
local macro_rules | `(tactic| tb_start) => `(tactic| with_reducible refine' WK.r_cons ?_)
local macro_rules | `(tactic| tb_start) => `(tactic| with_reducible refine' WK.r_op ?_)
local macro_rules | `(tactic| tb_start) => `(tactic| with_reducible refine' WK.r_c ?_)
local macro_rules | `(tactic| tb_start) => `(tactic| ((with_reducible refine' WK.r_var ?hh ?_); (case hh => exact rfl)))

namespace LW
open PySem PySem.Spec PyProof.Rows L2 WK
def topS (i : Nat) : Stmt := PySem.Challenge.pw_partkin_k23_when_steps_are_done.main.body.getD i (.Pass ⟨0, 0, 0, 0⟩)
abbrev s__law_mix : Stmt := topS 29
abbrev s__law_next : Stmt := topS 30
theorem sc__law_mix : FnScope ["_law_script", "_law_seed", "_law_mixed", "_law_cell"] ["_law_script", "_law_seed"] (defScope s__law_mix) := ⟨rfl, rfl, rfl, by decide +kernel, rfl, by decide +kernel, by decide +kernel⟩
theorem sc__law_next : FnScope ["_law_h", "_law_many", "_law_cell"] ["_law_h", "_law_many"] (defScope s__law_next) := ⟨rfl, rfl, rfl, by decide +kernel, rfl, by decide +kernel, by decide +kernel⟩
/-- the state that is drawn from -/
abbrev hL (p q : Addr) (m : Int) (cs : List Int) (k : Int) : Led := [(p, .lst [.int m, .ref q, .int k]), (q, .lst (cs.map V.int))]
section
variable {P : Program} {w : World} {K : PySem.W.Frag} {mg : Str → Option Value} {base : Heap}
def spMix (K : PySem.W.Frag) : Sp := fun vs H Q _ => ∃ (B : Hp) (a : Addr) (ns : List Int) (seed : Int), vs = [.ref a, .int seed] ∧ Ex B H ∧ SqL K B a (ns.map V.int) ∧ ns.length ≤ 63 ∧ 0 ≤ seed ∧ seed < 2147483647 ∧
  ∀ (m : Int) (p q : Addr) (B' H' : Hp), 0 ≤ m → m < 2147483647 → Ok ⟨B, H, []⟩ B' (hL p q m ns 0) H' → Q (.ref p) H'
theorem ok__law_mix {f : Addr} {fd : FuncData} (F : Fun K "_law_mix" "_law_mix" s__law_mix f fd) (n_list : mg "list" = none) : FnOk P w K mg base CX0 1 f fd ["_law_script", "_law_seed"] (spMix K) := by
  refine F.ok sc__law_mix (fun vs H Q E h => ?_) (fun cdv A outer s H vs Q E hr h => ?_)
  · obtain ⟨B, a, ns, seed, rfl, _⟩ := h
    rfl
  · obtain ⟨B, a, ns, seed, rfl, ex, hs, hl, h0, h1, k⟩ := h
    have S := Ok.start0 ex
    refine with_al (P := P) (w := w) (K := K) hr (fun al => ?_)
    refine ⟨_, (pss_cons (ps_asg (pv 1) (pg_name (i := 2) sc__law_mix.nd rfl (by first | exact Or.inl rfl | exact Or.inr rfl))) (pss_cons (ps_for PassesOwn.never rfl (pi_val al (pv 0)) (pg_name (i := 3) sc__law_mix.nd rfl (by first | exact Or.inl rfl | exact Or.inr rfl)) (pss_one (ps_asg (pe_op (opU al) (pe_op (opU al) (pe_op (opU al) (pe_op (opU al) (pv 2) pe_int) (pe_op (opU al) (pv 3) pe_int)) pe_int) pe_int) (pg_name (i := 2) sc__law_mix.nd rfl (by first | exact Or.inl rfl | exact Or.inr rfl))))) (pss_one (ps_ret (pe_lst (pa_cons (pv 2) (pa_cons (pe_callTy (callU al) (by rfl) n_list b_list (pa_cons (pv 0) pa_nil)) (pa_cons pe_int pa_nil)))))))), ?_⟩
    repeat tb_start
    refine forL (S.sqB hs) (fun i σ H' => ∃ (m : Int) (c : Option V), σ = [some (.ref a), some (.int seed), some (.int m), c] ∧ 0 ≤ m ∧ m < 2147483647 ∧ Ok ⟨B, H, []⟩ B [] H') ?_ ?_ ?_ ?_
    · rintro i σ H1 _ ⟨m, c, rfl, _, _, S1⟩
      exact S1.sqB hs
    · exact ⟨seed, none, rfl, h0, h1, S⟩
    · rintro i x σ H1 hx ⟨m, c, rfl, hm0, hm1, S1⟩
      obtain ⟨z, rfl⟩ : ∃ z, x = V.int z := by
        rw [List.getElem?_map] at hx
        cases e : ns[i]? with
        | none => rw [e] at hx; cases hx
        | some z => rw [e] at hx; exact ⟨z, (Option.some.inj hx).symm⟩
      repeat tb_start
      exact ⟨_, _, rfl, Int.emod_nonneg _ (by decide), Int.emod_lt_of_pos _ (by decide), S1⟩
    · rintro σ H1 ⟨m, c, rfl, hm0, hm1, S1⟩
      repeat tb_start
      refine v_listOf S1 (.inl (S1.sqB hs)) fun q H2 S2 => ?_
      repeat tb_start
      refine new_lst S2 (by simp [sizeLine_eq]) fun p H3 S3 => ?_
      exact k m p q _ _ hm0 hm1 S3
/-- the state behind a draw -/
structure HS (cs : List Int) (kk : Int) : Prop where
  len : cs.length ≤ 63
  pl : 0 ≤ kk
theorem mod_ix (n : Nat) (k : Int) : ∃ j : Nat, j < max 1 n ∧ (k % if (n : Int) > 1 then (n : Int) else 1) = (j : Int) := by
  have h : ∃ m : Nat, m = max 1 n ∧ (if (n : Int) > 1 then (n : Int) else 1) = (m : Int) := by
    refine ⟨max 1 n, rfl, ?_⟩
    split <;> omega
  obtain ⟨m, hm, e⟩ := h
  rw [e]
  have h0 : 0 ≤ k % (m : Int) := Int.emod_nonneg _ (by omega)
  have h1 : k % (m : Int) < m := Int.emod_lt_of_pos _ (by omega)
  exact ⟨(k % (m : Int)).toNat, by omega, by omega⟩
theorem item_of (cs : List Int) (j : Nat) (h : j < cs.length) : atI (List.map V.int cs) (j : Int) = some (.int (cs.getD j 0)) := by
  refine atI_nat ?_
  rw [List.getElem?_map, List.getD_eq_getElem?_getD, List.getElem?_eq_getElem h]
  rfl
def spNext : Sp := fun vs H Q _ => ∃ (B : Hp) (p q : Addr) (m : Int) (cs : List Int) (kk many : Int), vs = [.ref p, .int many] ∧ Ok ⟨B, H, [p, q]⟩ B (hL p q m cs kk) H ∧ HS cs kk ∧ 0 < many ∧ many < 1073741824 ∧
  ∀ (r m' : Int) (cs' : List Int) (kk' : Int) (H' : Hp), 0 ≤ r → r < many → HS cs' kk' → Ok ⟨B, H, [p, q]⟩ B (hL p q m' cs' kk') H' → Q (.int r) H'
theorem ok__law_next {f : Addr} {fd : FuncData} (F : Fun K "_law_next" "_law_next" s__law_next f fd) (n_max : mg "max" = none) (n_len : mg "len" = none) : FnOk P w K mg base CX0 1 f fd ["_law_h", "_law_many"] spNext := by
  refine F.ok sc__law_next (fun vs H Q E h => ?_) (fun cdv A outer s H vs Q E hr h => ?_)
  · obtain ⟨B, p, q, m, cs, kk, many, rfl, _⟩ := h
    rfl
  · obtain ⟨B, p, q, m, cs, kk, many, rfl, S, hS, h0, h1, k⟩ := h
    refine with_al (P := P) (w := w) (K := K) hr (fun al => ?_)
    refine ⟨_, (pss_cons (ps_asg (pe_ix (ixU al) (pe_op (opU al) (pe_ix (ixU al) (pv 0) pe_int (fun _ _ => rfl)) (pe_lst (pa_cons pe_int pa_nil))) (pe_op (opU al) (pe_ix (ixU al) (pv 0) pe_int (fun _ _ => rfl)) (pe_callB (callU al) (by rfl) n_max b_max (pa_cons pe_int (pa_cons (pe_callB (callU al) (by rfl) n_len b_len (pa_cons (pe_ix (ixU al) (pv 0) pe_int (fun _ _ => rfl)) pa_nil)) pa_nil)))) (fun _ _ => rfl)) (pg_name (i := 2) sc__law_next.nd rfl (by first | exact Or.inl rfl | exact Or.inr rfl))) (pss_cons (ps_if (pt_cmpR (opU al) (pv 2) (pe_op (opU al) pe_int pe_int) (nomark _)) (pss_cons (ps_asg (pe_op (opU al) (pv 2) (pv 1)) (pg_sub (pe_ix (ixU al) (pv 0) pe_int (fun _ _ => rfl)) (pe_op (opU al) (pe_ix (ixU al) (pv 0) pe_int (fun _ _ => rfl)) (pe_callB (callU al) (by rfl) n_len b_len (pa_cons (pe_ix (ixU al) (pv 0) pe_int (fun _ _ => rfl)) pa_nil))) (setU al))) (pss_one (ps_ret (pe_op (opU al) (pv 2) (pv 1))))) pss_nil) (pss_cons (ps_asg (pe_op (opU al) (pe_op (opU al) (pe_op (opU al) (pe_op (opU al) (pe_ix (ixU al) (pv 0) pe_int (fun _ _ => rfl)) pe_int) (pe_op (opU al) (pv 2) pe_int)) pe_int) pe_int) (pg_sub (pv 0) pe_int (setU al))) (pss_cons (ps_asg (pe_op (opU al) (pe_ix (ixU al) (pv 0) pe_int (fun _ _ => rfl)) pe_int) (pg_sub (pv 0) pe_int (setU al))) (pss_one (ps_ret (pe_op (opU al) (pe_op (opU al) (pe_ix (ixU al) (pv 0) pe_int (fun _ _ => rfl)) pe_int) (pv 1)))))))), ?_⟩
    repeat tb_start
    refine new_lst S (by decide) fun z H1 S1 => ?_
    repeat tb_start
    refine v_cat S1 (by kts_caught) (by kts_caught) ?_ fun z2 H2 S2 => ?_
    · have := hS.len
      rw [List.length_map, sizeLine_eq]
      show cs.length + 1 ≤ _
      omega
    repeat tb_start
    obtain ⟨c, hc, hc0⟩ : ∃ c : Int, atI (List.map V.int cs ++ [V.int 0]) (kk % if ((List.map V.int cs).length : Int) > 1 then ((List.map V.int cs).length : Int) else 1) = some (.int c) ∧ (cs = [] → c = 0) := by
      obtain ⟨j, hj, e⟩ := mod_ix cs.length kk
      refine ⟨(cs ++ [0]).getD j 0, ?_, fun z => ?_⟩
      · rw [List.length_map, e]
        have := item_of (cs ++ [0]) j (by simp; omega)
        rw [List.map_append] at this
        exact this
      · subst z
        have : j = 0 := by have := hj; simp at this; omega
        subst this
        rfl
    refine v_ixL (by kts_caught) hc ?_
    have S3 : Ok ⟨B, H, [p, q]⟩ B (hL p q m cs kk) H2 := S2.drop.drop
    repeat tb_start
    refine ifd (fun hbig => ?_) (fun hbig => ?_)
    · have hne : 0 < cs.length := by
        cases cs with
        | nil => rw [hc0 rfl] at hbig; exact absurd hbig (by decide)
        | cons _ _ => simp
      repeat tb_start
      obtain ⟨j, hj, ej⟩ : ∃ j : Nat, j < cs.length ∧ kk % ((List.map V.int cs).length : Int) = (j : Int) := by
        have h0 : 0 ≤ kk % (cs.length : Int) := Int.emod_nonneg _ (by omega)
        have h1 : kk % (cs.length : Int) < cs.length := Int.emod_lt_of_pos _ (by omega)
        exact ⟨(kk % (cs.length : Int)).toNat, by omega, by rw [List.length_map]; omega⟩
      refine v_setLN 1 S3 rfl (ixN_of ej (by rw [List.length_map]; exact hj)) fun H4 S4 => ?_
      repeat tb_start
      rw [← List.map_set] at S4
      exact k _ m (cs.set j (c / many)) kk _ (Int.emod_nonneg _ (by omega)) (Int.emod_lt_of_pos _ h0) ⟨by rw [List.length_set]; exact hS.len, hS.pl⟩ S4
    · repeat tb_start
      refine v_setLN 0 S3 rfl rfl fun H4 S4 => ?_
      repeat tb_start
      refine v_setLN 0 S4 rfl rfl fun H5 S5 => ?_
      repeat tb_start
      exact k _ _ cs (kk + 1) _ (Int.emod_nonneg _ (by omega)) (Int.emod_lt_of_pos _ h0) ⟨hS.len, by have := hS.pl; omega⟩ S5
end
end LW

namespace LW
open PySem PySem.Spec PyProof.Rows L2 WK PM
abbrev s_is_name : Stmt := topS 18
theorem sc_is_name : FnScope ["word", "sign"] ["word"] (defScope s_is_name) := ⟨rfl, rfl, rfl, by decide +kernel, rfl, by decide +kernel, by decide +kernel⟩
section
variable {P : Program} {w : World} {K : PySem.W.Frag} {mg : Str → Option Value} {base : Heap}
def spIsName : Sp := fun vs H Q _ => ∃ (B : Hp) (z : Str), vs = [.str z] ∧ Ex B H ∧ z.length ≤ 1000 ∧ ∀ B' H', Ok ⟨B, H, []⟩ B' [] H' → Q (.bl (isNameM z)) H'
theorem ok_is_name {f : Addr} {fd : FuncData} (F : Fun K "is_name" "is_name" s_is_name f fd) (n_len : mg "len" = none) (n_all : mg "all" = none) (c_MOST_SIGNS : GlI mg "MOST_SIGNS" 8) (c_LETTERS : GlS mg "LETTERS" letters) : FnOk P w K mg base CX0 1 f fd ["word"] spIsName := by
  refine F.ok sc_is_name (fun vs H Q E h => ?_) (fun cdv A outer s H vs Q E hr h => ?_)
  · obtain ⟨B, z, rfl, _⟩ := h
    rfl
  · obtain ⟨B, z, rfl, ex, hl, k⟩ := h
    have S := Ok.start0 ex
    refine with_al (P := P) (w := w) (K := K) hr (fun al => ?_)
    refine ⟨_, (pss_one (ps_ret (pe_and (pe_chain (opU al) (opU al) pe_int (pe_callB (callU al) (by rfl) n_len b_len (pa_cons (pv 0) pa_nil)) (pe_gi c_MOST_SIGNS rfl)) (pe_one (pe_callB (callU al) (by rfl) n_all b_all (pa_cons (pe_lc (own := [("sign", 1)]) al.calm sc_is_name.nd (pi_str (pv 0)) (blkOk_by (own := [("sign", 1)]) (N := ["word", "sign"]) (sc := (defScope s_is_name)) (by decide +kernel)) (fun _ _ _ _ _ => (pg_name (i := 1) sc_is_name.nd rfl (by first | exact Or.inl rfl | exact Or.inr rfl))) (fun _ _ _ _ _ => pts_nil) (fun _ _ _ _ _ => (pe_cmpR (opU al) (pv 1) (pe_gs c_LETTERS rfl) rfl))) pa_nil)))))), ?_⟩
    repeat tb_start
    refine ifd (fun c1 => ?_) (fun c1 => ?_)
    · repeat tb_start
      refine ifd (fun c2 => ?_) (fun c2 => ?_)
      · repeat tb_start
        have hz : z.cps.toList.length ≤ 1000 := hl
        refine lcD src_str S (fun i acc B' L' => L' = [] ∧ acc = (z.cps.toList.take i).map (fun c => V.bl (decide (c ∈ letters.cps.toList))) ∧ i ≤ 1000) ⟨rfl, rfl, by omega⟩ (fun _ _ _ _ _ _ _ => True.intro) ?_ ?_
        · rintro i c x acc B0 B1 L D H1 hc ⟨rfl, rfl, hi⟩ e S1 rfl
          repeat tb_start
          refine ⟨rfl, ?_⟩
          repeat tb_start
          have hi' : i < z.cps.toList.length := (List.getElem?_eq_some_iff.mp hc).1
          refine Acc.mk S1 (by rw [sizeLine_eq, List.length_map, List.length_take]; omega) ⟨rfl, ?_, by omega⟩
          rw [List.take_add_one, hc, List.map_append]
          rfl
        · rintro acc B1 L D H1 ⟨rfl, rfl, hi⟩ S1
          repeat tb_start
          refine v_all (bs := z.cps.toList.map fun c => decide (c ∈ letters.cps.toList)) (by rw [List.map_map]; rw [List.take_length] at S1; exact S1.sqMem (.head _)) ?_
          have e : isNameM z = (z.cps.toList.map fun c => decide (c ∈ letters.cps.toList)).all id := by
            unfold isNameM
            rw [decide_eq_true c1, decide_eq_true c2, Bool.true_and, Bool.true_and]
          repeat tb_start
          rw [← e]
          exact k _ _ S1.drop
      · repeat tb_start
        have e : isNameM z = false := by
          unfold isNameM
          rw [decide_eq_false c2, Bool.false_and, Bool.and_false]
        have q := k _ _ S
        rw [e] at q
        exact q
    · repeat tb_start
      have e : isNameM z = false := by
        unfold isNameM
        rw [decide_eq_false c1, Bool.false_and]
      have q := k _ _ S
      rw [e] at q
      exact q
end
end LW

namespace LW
open PySem PySem.Spec PyProof.Rows L2 WK PM
abbrev s_Parts_is_row : Stmt := inClass (topS 19) 1
theorem sc_Parts_is_row : FnScope ["self", "row", "name", "needs", "steps", "lot", "lead", "others", "part", "many", "machine", "minutes"] ["self", "row"] (defScope s_Parts_is_row) := ⟨rfl, rfl, rfl, by decide +kernel, rfl, by decide +kernel, by decide +kernel⟩
def spIsRow (K : PySem.W.Frag) (CP : Addr) : Sp := fun vs H Q _ => ∃ (B : Hp) (p dx a l : Addr) (v : V) (kvs : List (Key × V)) (names : List Str) (r : PRow), vs = [.ref p, v] ∧ Ex B H ∧ H p = some (.ins CP dx (fldsP a l)) ∧ Rd H a (.dK kvs) ∧ kvs.map (·.1) = names.map Sum.inr ∧
  Dp K B v (encRow r) ∧ GoodRow names r ∧ names.length ≤ 12 ∧ ∀ B' H', Ok ⟨B, H, []⟩ B' [] H' → Q (.bl true) H'
section
variable {P : Program} {w : World} {K : PySem.W.Frag} {mg : Str → Option Value} {base : Heap}
theorem ok_is_row {f CP : Addr} {fd : FuncData} (F : Fun K "is_row" "Parts.is_row" s_Parts_is_row f fd) (G_is_name : FnG P w K mg base 1 "is_name" ["word"] spIsName) (clP : Cls K CP) (nRows : NoAttr K CP "rows")
    (n_len : mg "len" = none) (n_all : mg "all" = none) (n_set : mg "set" = none) (c_MOST_LOT : GlI mg "MOST_LOT" 99) (c_MOST_LEAD : GlI mg "MOST_LEAD" 30) (c_MOST_NEED : GlI mg "MOST_NEED" 9) (c_MOST_STEPS : GlI mg "MOST_STEPS" 5)
    (c_MACHINES : GlI mg "MACHINES" 6) (c_MOST_MINUTES : GlI mg "MOST_MINUTES" 99) : FnOk P w K mg base CX0 2 f fd ["self", "row"] (spIsRow K CP) := by
  refine F.ok sc_Parts_is_row (fun vs H Q E h => ?_) (fun cdv A outer s H vs Q E hr h => ?_)
  · obtain ⟨B, p, dx, a, l, v, kvs, names, r, rfl, _⟩ := h
    rfl
  · obtain ⟨B, p, dx, a, l, v, kvs, names, r, rfl, ex, hp, ha, hk, hv, G, hn, k⟩ := h
    have S := Ok.start0 ex
    refine with_al (P := P) (w := w) (K := K) hr (fun al => ?_)
    refine ⟨_, (pss_cons (ps_asg (pv 1) (pg_tupU (n := 5) K (pgs_cons (pg_name (i := 2) sc_Parts_is_row.nd rfl (by first | exact Or.inl rfl | exact Or.inr rfl)) (pgs_cons (pg_name (i := 3) sc_Parts_is_row.nd rfl (by first | exact Or.inl rfl | exact Or.inr rfl)) (pgs_cons (pg_name (i := 4) sc_Parts_is_row.nd rfl (by first | exact Or.inl rfl | exact Or.inr rfl)) (pgs_cons (pg_name (i := 5) sc_Parts_is_row.nd rfl (by first | exact Or.inl rfl | exact Or.inr rfl)) (pgs_cons (pg_name (i := 6) sc_Parts_is_row.nd rfl (by first | exact Or.inl rfl | exact Or.inr rfl)) pgs_nil))))))) (pss_cons (ps_if (PW.pt (pw_or (pt_not (pt_val (pe_fn G_is_name (hr.mono (by first | decide | omega)) rfl (pa_cons (pv 2) pa_nil)))) (pw_or (pt_cmpR (opU al) (pv 2) (pe_fldU K (pv 0) rfl) rfl) (pw_or (pt_not (pt_chain (opU al) (opU al) pe_int (pv 5) (pe_gi c_MOST_LOT rfl))) (pw_or1 (pt_not (pt_chain (opU al) (opU al) pe_int (pv 6) (pe_gi c_MOST_LEAD rfl)))))))) (pss_one (ps_ret pe_bl)) pss_nil) (pss_cons (ps_setLc (i := 7) (own := [("part", 8), ("many", 9)]) al.calm sc_Parts_is_row.nd rfl rfl (sw_true rfl rfl rfl (by decide +kernel)) (pi_val al (pv 3)) (blkOk_by (own := [("part", 8), ("many", 9)]) (N := ["self", "row", "name", "needs", "steps", "lot", "lead", "others", "part", "many", "machine", "minutes"]) (sc := (defScope s_Parts_is_row)) (by decide +kernel)) (fun _ _ _ _ _ => (pg_tupU (n := 2) K (pgs_cons (pg_name (i := 8) sc_Parts_is_row.nd rfl (by first | exact Or.inl rfl | exact Or.inr rfl)) (pgs_cons (pg_name (i := 9) sc_Parts_is_row.nd rfl (by first | exact Or.inl rfl | exact Or.inr rfl)) pgs_nil)))) (fun _ _ _ _ _ => pts_nil) (fun _ _ _ _ _ => (pv 8))) (pss_cons (ps_if (PW.pt (pw_or (pt_cmpR (opU al) (pe_callB (callU al) (by rfl) n_len b_len (pa_cons (pe_callTy (callU al) (by rfl) n_set b_set (pa_cons (pv 7) pa_nil)) pa_nil)) (pe_callB (callU al) (by rfl) n_len b_len (pa_cons (pv 7) pa_nil)) (nomark _)) (pw_or1 (pt_not (pt_val (pe_callB (callU al) (by rfl) n_all b_all (pa_cons (pe_lc (own := [("part", 8)]) al.calm sc_Parts_is_row.nd (pi_val al (pv 7)) (blkOk_by (own := [("part", 8)]) (N := ["self", "row", "name", "needs", "steps", "lot", "lead", "others", "part", "many", "machine", "minutes"]) (sc := (defScope s_Parts_is_row)) (by decide +kernel)) (fun _ _ _ _ _ => (pg_name (i := 8) sc_Parts_is_row.nd rfl (by first | exact Or.inl rfl | exact Or.inr rfl))) (fun _ _ _ _ _ => pts_nil) (fun _ _ _ _ _ => (pe_cmpR (opU al) (pv 8) (pe_fldU K (pv 0) rfl) rfl))) pa_nil))))))) (pss_one (ps_ret pe_bl)) pss_nil) (pss_cons (ps_if (PW.pt (pw_or (pt_not (pt_val (pe_callB (callU al) (by rfl) n_all b_all (pa_cons (pe_lc (own := [("part", 8), ("many", 9)]) al.calm sc_Parts_is_row.nd (pi_val al (pv 3)) (blkOk_by (own := [("part", 8), ("many", 9)]) (N := ["self", "row", "name", "needs", "steps", "lot", "lead", "others", "part", "many", "machine", "minutes"]) (sc := (defScope s_Parts_is_row)) (by decide +kernel)) (fun _ _ _ _ _ => (pg_tupU (n := 2) K (pgs_cons (pg_name (i := 8) sc_Parts_is_row.nd rfl (by first | exact Or.inl rfl | exact Or.inr rfl)) (pgs_cons (pg_name (i := 9) sc_Parts_is_row.nd rfl (by first | exact Or.inl rfl | exact Or.inr rfl)) pgs_nil)))) (fun _ _ _ _ _ => pts_nil) (fun _ _ _ _ _ => (pe_chain (opU al) (opU al) pe_int (pv 9) (pe_gi c_MOST_NEED rfl)))) pa_nil)))) (pw_or1 (pt_cmpR (opU al) (pe_callB (callU al) (by rfl) n_len b_len (pa_cons (pv 4) pa_nil)) (pe_gi c_MOST_STEPS rfl) (nomark _))))) (pss_one (ps_ret pe_bl)) pss_nil) (pss_one (ps_ret (pe_callB (callU al) (by rfl) n_all b_all (pa_cons (pe_lc (own := [("machine", 10), ("minutes", 11)]) al.calm sc_Parts_is_row.nd (pi_val al (pv 4)) (blkOk_by (own := [("machine", 10), ("minutes", 11)]) (N := ["self", "row", "name", "needs", "steps", "lot", "lead", "others", "part", "many", "machine", "minutes"]) (sc := (defScope s_Parts_is_row)) (by decide +kernel)) (fun _ _ _ _ _ => (pg_tupU (n := 2) K (pgs_cons (pg_name (i := 10) sc_Parts_is_row.nd rfl (by first | exact Or.inl rfl | exact Or.inr rfl)) (pgs_cons (pg_name (i := 11) sc_Parts_is_row.nd rfl (by first | exact Or.inl rfl | exact Or.inr rfl)) pgs_nil)))) (fun _ _ _ _ _ => pts_nil) (fun _ _ _ _ _ => (pe_and (pe_chain (opU al) (opU al) pe_int (pv 10) (pe_gi c_MACHINES rfl)) (pe_one (pe_chain (opU al) (opU al) pe_int (pv 11) (pe_gi c_MOST_MINUTES rfl)))))) pa_nil))))))))), ?_⟩
    repeat tb_start
    obtain ⟨lo1, lo2⟩ := G.lot
    obtain ⟨le1, le2⟩ := G.lead
    have fs := G.few
    refine r_gtupRow S hv fun v2 v3 h2 h3 => ?_
    repeat tb_start
    have nl : r.name.length ≤ 1000 := by
      have := G.nm
      unfold isNameM at this
      simp only [Bool.and_eq_true, decide_eq_true_eq] at this
      omega
    refine ⟨B, r.name, rfl, S.ex, nl, fun B1 H1 T1 => ?_⟩
    have S1 := S.callP T1
    have e1 := T1.ex0
    repeat tb_start
    rw [G.nm]
    repeat tb_start
    have no : (valV kvs (.inr r.name)).isSome = false := valV_isSome_false (by
      rw [hk]
      intro z
      obtain ⟨x, hx, e⟩ := List.mem_map.mp z
      exact G.new (Sum.inr.inj e ▸ hx))
    rw [no]
    repeat tb_start
    have nlen : r.needs.length ≤ 12 := by
      have h1 := nodup_sub_length G.nd (l' := names) (by
        intro x hx
        obtain ⟨y, hy, rfl⟩ := List.mem_map.mp hx
        exact G.known y hy)
      rw [List.length_map] at h1
      omega
    refine lcPureT S1 (h2.up e1) (fun _ => true) (fun x => .str x.1) (by omega) ?_ ?_
    · intro x v B2 D acc H2 C Cs hx e2 S2 hv kC kS
      repeat tb_start
      refine r_gtupSI S2 hv ?_
      repeat tb_start
      refine ⟨rfl, ?_⟩
      repeat tb_start
      exact kC _ _ _ rfl (Ex.refl _) S2 (.str _)
    · intro D acc B2 H2 e2 S2 hacc
      rw [filter_tt] at hacc
      have hD' : DpAll K B2 acc ((r.needs.map (·.1)).map PyData.str) := by rw [List.map_map]; exact hacc
      obtain ⟨B3, e3, S3, hD⟩ := S2.toData hD'
      repeat tb_start
      refine v_setOfD S3 hD (by rw [List.length_map]; omega) fun p4 H4 S4 => ?_
      rw [unlike_strs G.nd] at S4
      repeat tb_start
      refine v_lenSet (S4.mem (.head _)) (by rw [List.length_map]; omega) ?_
      have S5 := S4.drop
      repeat tb_start
      refine lcPureL S5 hD (fun _ => true) (fun _ => .bool true) (by rw [List.length_map]; omega) ?_ ?_
      · intro x v B6 D6 acc6 H6 C Cs hx e6 S6 hv kC kS
        obtain rfl := hv.str_inv
        repeat tb_start
        refine ⟨rfl, ?_⟩
        repeat tb_start
        have yes : (valV kvs (.inr x)).isSome = true := valV_isSome_true (by
          rw [hk]
          obtain ⟨y, hy, rfl⟩ := List.mem_map.mp hx
          exact List.mem_map.mpr ⟨_, G.known y hy, rfl⟩)
        rw [yes]
        exact kC _ _ _ rfl (Ex.refl _) S6 (.bl _)
      · intro D6 acc6 B6 H6 e6 S6 hacc6
        rw [filter_tt] at hacc6
        obtain ⟨B7, e7, S7, hD7⟩ := S6.toData (ds := ((r.needs.map (·.1)).map fun _ => true).map PyData.bool) (by rw [List.map_map]; exact hacc6)
        repeat tb_start
        refine v_allD S7 hD7 ?_
        have all1 : (((r.needs.map (·.1)).map fun _ => true).all id) = true := by simp
        rw [all1]
        repeat tb_start
        refine lcPureT S7 (h2.up (e1.trans (e2.trans (e3.trans (e6.trans e7))))) (fun _ => true) (fun _ => .bool true) (by omega) ?_ ?_
        · intro x v B8 D8 acc8 H8 C Cs hx e8 S8 hv kC kS
          obtain ⟨m1, m2⟩ := G.many x hx
          repeat tb_start
          refine r_gtupSI S8 hv ?_
          repeat tb_start
          refine ⟨rfl, ?_⟩
          repeat tb_start
          rw [decide_eq_true m2]
          exact kC _ _ _ rfl (Ex.refl _) S8 (.bl _)
        · intro D8 acc8 B8 H8 e8 S8 hacc8
          rw [filter_tt] at hacc8
          obtain ⟨B9, e9, S9, hD9⟩ := S8.toData (ds := (r.needs.map fun _ => true).map PyData.bool) (by rw [List.map_map]; exact hacc8)
          repeat tb_start
          refine v_allD S9 hD9 ?_
          have all2 : ((r.needs.map fun _ => true).all id) = true := by simp
          rw [all2]
          repeat tb_start
          refine lcPureT S9 (h3.up (e1.trans (e2.trans (e3.trans (e6.trans (e7.trans (e8.trans e9))))))) (fun _ => true) (fun _ => .bool true) (by omega) ?_ ?_
          · intro x v Ba Da acca Ha C Cs hx ea Sa hv kC kS
            obtain ⟨⟨m1, m2⟩, m3, m4⟩ := G.steps x hx
            repeat tb_start
            refine r_gtupII Sa hv ?_
            repeat tb_start
            refine ⟨rfl, ?_⟩
            repeat tb_start
            rw [decide_eq_true m4]
            exact kC _ _ _ rfl (Ex.refl _) Sa (.bl _)
          · intro Da acca Ba Ha ea Sa hacca
            rw [filter_tt] at hacca
            obtain ⟨Bb, eb, Sb, hDb⟩ := Sa.toData (ds := (r.steps.map fun _ => true).map PyData.bool) (by rw [List.map_map]; exact hacca)
            repeat tb_start
            refine v_allD Sb hDb ?_
            have all3 : ((r.steps.map fun _ => true).all id) = true := by simp
            rw [all3]
            exact k _ _ Sb
end
end LW

namespace LW
open PySem PySem.Spec PyProof.Rows L2 WK PM
abbrev s_Parts_led_to : Stmt := inClass (topS 19) 2
theorem sc_Parts_led_to : FnScope ["self", "needs", "found", "part", "many", "other", "more"] ["self", "needs"] (defScope s_Parts_led_to) := ⟨rfl, rfl, rfl, by decide +kernel, rfl, by decide +kernel, by decide +kernel⟩
def spLedTo (K : PySem.W.Frag) (CP : Addr) : Sp := fun vs H Q _ => ∃ (B : Hp) (p dx a l : Addr) (v : V) (rkv lkv : List (Key × V)) (names : List Str) (ls : List (Str × List (Str × Int))) (needs : List (Str × Int)), vs = [.ref p, v] ∧ Ex B H ∧
  H p = some (.ins CP dx (fldsP a l)) ∧ H a = some (.dK rkv) ∧ B a = none ∧ rkv.map (·.1) = names.map Sum.inr ∧ names.Nodup ∧ names.length ≤ 12 ∧ Rd H l (.dK lkv) ∧ LedKV B lkv ls ∧ Dp K B v (.tuple (needs.map encNeed)) ∧
  (∀ x ∈ needs, x.1 ∈ names ∧ (1 ≤ x.2 ∧ x.2 ≤ 9) ∧ ∃ m, getA ls x.1 = some m ∧ ∀ y ∈ m, y.1 ∈ names) ∧
  ∀ D B' H', Ex B B' → Ok ⟨B, H, []⟩ B' [(D, .dK (kvI (ledTo names ls needs)))] H' → Q (.ref D) H'
section
variable {P : Program} {w : World} {K : PySem.W.Frag} {mg : Str → Option Value} {base : Heap}
theorem ok_led_to {f CP : Addr} {fd : FuncData} (F : Fun K "led_to" "Parts.led_to" s_Parts_led_to f fd) (clP : Cls K CP) (nRows : NoAttr K CP "rows") (nLed : NoAttr K CP "led") : FnOk P w K mg base CX0 1 f fd ["self", "needs"] (spLedTo K CP) := by
  refine F.ok sc_Parts_led_to (fun vs H Q E h => ?_) (fun cdv A outer s H vs Q E hr h => ?_)
  · obtain ⟨B, p, dx, a, l, v, rkv, lkv, names, ls, needs, rfl, _⟩ := h
    rfl
  · obtain ⟨B, p, dx, a, l, v, rkv, lkv, names, ls, needs, rfl, ex, hp, ha, hb, hk, nd, hn, hl, LK, hv, hx, k⟩ := h
    have S := Ok.start0 ex
    refine with_al (P := P) (w := w) (K := K) hr (fun al => ?_)
    refine ⟨_, (pss_cons (ps_lock (ps_setDc (i := 2) (own := [("part", 3)]) al.calm sc_Parts_led_to.nd rfl rfl (sw_trueD rfl rfl rfl (by decide +kernel)) (pi_keys (pe_fldU K (pv 0) rfl)) (blkOk_by (own := [("part", 3)]) (N := ["self", "needs", "found", "part", "many", "other", "more"]) (sc := (defScope s_Parts_led_to)) (by decide +kernel)) (fun _ _ _ _ _ => (pg_name (i := 3) sc_Parts_led_to.nd rfl (by first | exact Or.inl rfl | exact Or.inr rfl))) (fun _ _ _ _ _ => pts_nil) (fun _ _ _ _ _ => (pv 3)) (fun _ _ _ _ _ => pe_int))) (pss_cons (ps_for PassesOwn.never rfl (pi_val al (pv 1)) (pg_tupU (n := 2) K (pgs_cons (pg_name (i := 3) sc_Parts_led_to.nd rfl (by first | exact Or.inl rfl | exact Or.inr rfl)) (pgs_cons (pg_name (i := 4) sc_Parts_led_to.nd rfl (by first | exact Or.inl rfl | exact Or.inr rfl)) pgs_nil))) (pss_cons (ps_augS (pv 2) (pv 3) (getU al) (pv 4) (ipU al) (setU al)) (pss_one (ps_for PassesOwn.never rfl (pi_items (pe_ix (ixU al) (pe_fldU K (pv 0) rfl) (pv 3) (fun _ _ => rfl))) (pg_tupU (n := 2) K (pgs_cons (pg_name (i := 5) sc_Parts_led_to.nd rfl (by first | exact Or.inl rfl | exact Or.inr rfl)) (pgs_cons (pg_name (i := 6) sc_Parts_led_to.nd rfl (by first | exact Or.inl rfl | exact Or.inr rfl)) pgs_nil))) (pss_one (ps_augS (pv 2) (pv 5) (getU al) (pe_op (opU al) (pv 4) (pv 6)) (ipU al) (setU al))))))) (pss_one (ps_ret (pe_frz (pe_dc (own := [("part", 3), ("many", 4)]) al.calm sc_Parts_led_to.nd (pi_items (pv 2)) (blkOk_by (own := [("part", 3), ("many", 4)]) (N := ["self", "needs", "found", "part", "many", "other", "more"]) (sc := (defScope s_Parts_led_to)) (by decide +kernel)) (fun _ _ _ _ _ => (pg_tupU (n := 2) K (pgs_cons (pg_name (i := 3) sc_Parts_led_to.nd rfl (by first | exact Or.inl rfl | exact Or.inr rfl)) (pgs_cons (pg_name (i := 4) sc_Parts_led_to.nd rfl (by first | exact Or.inl rfl | exact Or.inr rfl)) pgs_nil)))) (fun _ _ _ _ _ => pts_one (pt_cmpR (opU al) (pv 4) pe_int (nomark _))) (fun _ _ _ _ _ => (pv 3)) (fun _ _ _ _ _ => (pv 4)))))))), ?_⟩
    repeat tb_start
    refine r_lockS ha trivial fun od => ?_
    have S1 := S.lock (od := od) ha hb (by simp)
    have hp1 : upd H a (.frz od (.dK rkv)) p = some (.ins CP dx (fldsP a l)) := by
      rw [upd_ne (fun z => by rw [z, ha] at hp; cases hp)]; exact hp
    repeat tb_start
    refine keyQ upd_same ?_
    refine dcPure src_keys S1 (fun B1 D acc e => .inr (.tail _ (.head _))) (fun _ => true) (fun q => (q, .int 0)) ?_ ?_ ?_ ?_
    · rw [List.map_id', hk]
      exact nodup_inr nd
    · rw [hk, List.length_map]; omega
    · intro q x B2 D acc H2 C Cs hq e2 S2 hv kC kS
      rw [hk] at hq
      obtain ⟨z, hz, rfl⟩ := List.mem_map.mp hq
      subst hv
      repeat tb_start
      refine ⟨rfl, ?_⟩
      repeat tb_start
      exact kC _ _ _ rfl rfl (Ex.refl _) S2
    · intro D B2 H2 e2 S2
      rw [filter_tt, hk] at S2
      have eq0 : ((names.map Sum.inr).map fun q : Key => ((q, .int 0) : Key × V)) = kvI (names.map fun s => (s, 0)) := by
        unfold kvI
        rw [List.map_map, List.map_map]; rfl
      rw [eq0] at S2
      have S3 := S2.swap
      obtain ⟨e0, S4⟩ := S.unlock ha hb (by simp) S3
      refine ⟨e0, ?_⟩
      repeat tb_start
      refine forDT S4 (hv.up e2) (fun i σ B1 L1 => ∃ x1 x2 x3 x4, σ = [some (.ref p), some v, some (.ref D), x1, x2, x3, x4] ∧ L1 = [(D, .dK (kvI ((needs.take i).foldl (needStep ls) (names.map fun s => (s, 0)))))]) ?_ ?_ ?_
      · exact ⟨_, _, _, _, rfl, rfl⟩
      · rintro i x xv σ B1 B3 L1 H3 hget ⟨_, _, _, _, rfl, rfl⟩ e3 e4 S5 hxv
        have hmem := List.mem_of_getElem? hget
        obtain ⟨hin, ⟨m1, m2⟩, m, hm, hmk⟩ := hx x hmem
        have keys0 : ((needs.take i).foldl (needStep ls) (names.map fun s => (s, 0))).map (·.1) = names := by
          rw [needs_keys]
          · rw [List.map_map]; exact List.map_id' _
          · intro y hy
            rw [List.map_map]
            exact (List.map_id' names).symm ▸ (hx y (List.mem_of_mem_take hy)).1
          · intro y hy m' em z hz
            obtain ⟨_, _, m'', em'', hm''⟩ := hx y (List.mem_of_mem_take hy)
            rw [em''] at em
            cases em
            rw [List.map_map]
            exact (List.map_id' names).symm ▸ hm'' z hz
        rw [foldl_take_succ hget]
        generalize hf : (needs.take i).foldl (needStep ls) (names.map fun s => (s, 0)) = f at S5 keys0 ⊢
        repeat tb_start
        refine r_gtupSI S5 hxv ?_
        repeat tb_start
        obtain ⟨c, hc⟩ := getA_of_mem (l := f) (s := x.1) (by rw [keys0]; exact hin)
        refine v_getDS (kvs := kvI f) (by kts_caught) (by rw [valV_kvI, hc]; rfl) ?_
        repeat tb_start
        have len1 : f.length ≤ 12 := by
          have := congrArg List.length keys0
          rw [List.length_map] at this
          omega
        refine v_setKN (k := .inr x.1) 0 S5 rfl rfl (by rw [List.length_map, sizeLine_eq]; omega) fun H4 S6 => ?_
        rw [putK_kvI] at S6
        have eadd : putA f x.1 (c + x.2) = addA f x.1 x.2 := by unfold addA; rw [hc]; rfl
        rw [eadd] at S6
        replace S6 : Ok _ B3 [(D, .dK (kvI (addA f x.1 x.2)))] H4 := S6
        have keys1 : (addA f x.1 x.2).map (·.1) = names := by rw [addA_keys (by rw [keys0]; exact hin), keys0]
        obtain ⟨d, od2, hd1, hd2⟩ := LK.get hm
        repeat tb_start
        refine v_ixDS (kvs := lkv) (S6.keptRd hl) hd1 ?_
        repeat tb_start
        have e5 : Ex B B3 := e2.trans (e3.trans e4)
        refine itmQ (S6.ex _ _ (e5 _ _ hd2)) ?_
        refine forDS src_items S6 (fun j σ B1 L1 => ∃ x3 x4, σ = [some (.ref p), some v, some (.ref D), some (.str x.1), some (.int x.2), x3, x4] ∧ L1 = [(D, .dK (kvI (addAll x.2 (addA f x.1 x.2) (m.take j))))]) (fun j σ B1 L1 e6 _ => .inl (e6 _ _ (e5 _ _ hd2))) ?_ ?_ ?_
        · exact ⟨_, _, rfl, rfl⟩
        · rintro j kv yv σ B1 B4 L1 H5 hgetj ⟨_, _, rfl, rfl⟩ e6 e7 S7 ⟨T, rfl, hT⟩
          obtain ⟨y, hy, rfl⟩ := kvI_get hgetj
          have hyk := hmk y (List.mem_of_getElem? hy)
          unfold addAll at S7 ⊢
          rw [foldl_take_succ hy]
          have keys2 : ((m.take j).foldl (fun f p => addA f p.1 (x.2 * p.2)) (addA f x.1 x.2)).map (·.1) = names := by
            have := addAll_keys (m := x.2) (f := addA f x.1 x.2) (more := m.take j) (fun z hz => by rw [keys1]; exact hmk z (List.mem_of_mem_take hz))
            unfold addAll at this
            rw [this, keys1]
          generalize hg : (m.take j).foldl (fun f p => addA f p.1 (x.2 * p.2)) (addA f x.1 x.2) = g at S7 keys2 ⊢
          refine r_gtupB S7 hT rfl ?_
          repeat tb_start
          obtain ⟨c2, hc2⟩ := getA_of_mem (l := g) (s := y.1) (by rw [keys2]; exact hyk)
          refine v_getDS (kvs := kvI g) (by kts_caught) (by rw [valV_kvI, hc2]; rfl) ?_
          repeat tb_start
          have len2 : g.length ≤ 12 := by
            have := congrArg List.length keys2
            rw [List.length_map] at this
            omega
          refine v_setKN (k := .inr y.1) 0 S7 rfl rfl (by rw [List.length_map, sizeLine_eq]; omega) fun H6 S8 => ?_
          rw [putK_kvI] at S8
          have eadd2 : putA g y.1 (c2 + x.2 * y.2) = addA g y.1 (x.2 * y.2) := by
            rw [addA, hc2]; rfl
          rw [eadd2] at S8
          refine NxE.mk' S8 (e6.trans e7) ?_
          exact ⟨_, _, rfl, rfl⟩
        · rintro σ B4 L4 H5 ⟨_, _, rfl, rfl⟩ e6 S7
          have et : m.take (kvI m).length = m := by rw [List.length_map, List.take_length]
          rw [et] at S7
          refine NxE.mk' S7 ((e3.trans e4).trans e6) ?_
          refine ⟨_, _, _, _, rfl, ?_⟩
          unfold needStep
          rw [hm]
          rfl
      · rintro σ B4 L4 H4 ⟨_, _, _, _, rfl, rfl⟩ e3 S5
        rw [List.take_length] at S5
        have keys0 : (ledRaw names ls needs).map (·.1) = names := by
          unfold ledRaw
          rw [needs_keys]
          · rw [List.map_map]; exact List.map_id' _
          · intro y hy
            rw [List.map_map]
            exact (List.map_id' names).symm ▸ (hx y hy).1
          · intro y hy m' em z hz
            obtain ⟨_, _, m'', em'', hm''⟩ := hx y hy
            rw [em''] at em
            cases em
            rw [List.map_map]
            exact (List.map_id' names).symm ▸ hm'' z hz
        replace S5 : Ok _ B4 [(D, .dK (kvI (ledRaw names ls needs)))] H4 := S5
        repeat tb_start
        refine frzE (S5.own _ (.head _)).1 trivial fun od3 => ?_
        obtain ⟨B5, e5, hD, S6⟩ := S5.freezeD (od := od3)
        repeat tb_start
        refine itmQ (S6.ex _ _ hD) ?_
        refine dcPure src_items S6 (fun B1 D acc e => .inl (e _ _ hD)) (vInt fun i => decide (0 < i)) id ?_ ?_ ?_ ?_
        · show ((kvI (ledRaw names ls needs)).map (·.1)).Nodup
          rw [kvI_keys, keys0]
          exact nodup_inr nd
        · have := congrArg List.length keys0
          rw [List.length_map] at this ⊢
          omega
        · rintro kv x B6 D6 acc H6 C Cs hkv e6 S7 ⟨T, rfl, hT⟩ kC kS
          obtain ⟨y, hy, rfl⟩ := List.mem_map.mp hkv
          refine r_gtupB S7 hT rfl ?_
          repeat tb_start
          refine ⟨rfl, ?_⟩
          repeat tb_start
          refine ifd (fun h0 => ?_) (fun h0 => ?_)
          · repeat tb_start
            exact kC _ _ _ (decide_eq_true h0) rfl (Ex.refl _) S7
          · exact kS _ _ (decide_eq_false h0) (Ex.refl _) S7
        · intro D6 B6 H6 e6 S7
          rw [List.map_id] at S7
          rw [kvI_filter] at S7
          exact k D6 B6 H6 (e2.trans (e3.trans (e5.trans e6))) S7
end
end LW

namespace LW
open PySem PySem.Spec PyProof.Rows L2 WK PM
abbrev s_Parts___init__ : Stmt := inClass (topS 19) 0
theorem sc_Parts___init__ : FnScope ["self", "told", "at", "row", "name", "needs", "steps", "lot", "lead"] ["self", "told"] (defScope s_Parts___init__) := ⟨rfl, rfl, rfl, by decide +kernel, rfl, by decide +kernel, by decide +kernel⟩
def spPInit (K : PySem.W.Frag) (CP : Addr) : Sp := fun vs H Q _ => ∃ (B : Hp) (p dx : Addr) (v : V) (rs : List PRow), vs = [.ref p, v] ∧ Ok ⟨B, H, [p]⟩ B [(p, .ins CP dx [])] H ∧ Dpl K B v (rs.map encRow) ∧ GoodBook rs ∧
  ∀ a l rkv lkv B' H', Ex B B' → RowKV K B' rkv rs → LedKV B' lkv (ledOf rs) → Ok ⟨B, H, [p]⟩ B' [(l, .dK lkv), (a, .dK rkv), (p, .ins CP dx (fldsP a l))] H' → Q .non H'
section
variable {P : Program} {w : World} {K : PySem.W.Frag} {mg : Str → Option Value} {base : Heap}
theorem ok_parts_init {f CP : Addr} {fd : FuncData} (F : Fun K "__init__" "Parts.__init__" s_Parts___init__ f fd) (G_is_row : MtG P w K mg base 2 CP "is_row" ["self", "row"] (spIsRow K CP)) (G_led_to : MtG P w K mg base 1 CP "led_to" ["self", "needs"] (spLedTo K CP))
    (clP : Cls K CP) (nRows : NoAttr K CP "rows") (nLed : NoAttr K CP "led") (n_enumerate : mg "enumerate" = none) (n_tuple : mg "tuple" = none) (n_sum : mg "sum" = none) (c_MOST_PARTS : GlI mg "MOST_PARTS" 12) (c_MOST_LED : GlI mg "MOST_LED" 200) : FnOk P w K mg base CX0 3 f fd ["self", "told"] (spPInit K CP) := by
  refine F.ok sc_Parts___init__ (fun vs H Q E h => ?_) (fun cdv A outer s H vs Q E hr h => ?_)
  · obtain ⟨B, p, dx, v, rs, rfl, _⟩ := h
    rfl
  · obtain ⟨B, p, dx, v, rs, rfl, S, hv, G, k⟩ := h
    refine with_al (P := P) (w := w) (K := K) hr (fun al => ?_)
    refine ⟨_, (pss_cons (ps_fldK K (pv 0) pe_dnewK rfl) (pss_cons (ps_fldK K (pv 0) pe_dnewK rfl) (pss_one (ps_for PassesOwn.never rfl (pi_enumV (by rfl) n_enumerate (pa_cons (pv 1) pa_nil)) (pg_tupU (n := 2) K (pgs_cons (pg_name (i := 2) sc_Parts___init__.nd rfl (by first | exact Or.inl rfl | exact Or.inr rfl)) (pgs_cons (pg_name (i := 3) sc_Parts___init__.nd rfl (by first | exact Or.inl rfl | exact Or.inr rfl)) pgs_nil))) (pss_cons (ps_if (PW.pt (pw_or (pt_cmpR (opU al) (pv 2) (pe_gi c_MOST_PARTS rfl) (nomark _)) (pw_or1 (pt_not (pt_val (pe_mth G_is_row (hr.mono (by first | decide | omega)) (pv 0) (pa_cons (pv 3) pa_nil))))))) (pss_one ps_never) pss_nil) (pss_cons (ps_asg (pv 3) (pg_tupU (n := 5) K (pgs_cons (pg_name (i := 4) sc_Parts___init__.nd rfl (by first | exact Or.inl rfl | exact Or.inr rfl)) (pgs_cons (pg_name (i := 5) sc_Parts___init__.nd rfl (by first | exact Or.inl rfl | exact Or.inr rfl)) (pgs_cons (pg_name (i := 6) sc_Parts___init__.nd rfl (by first | exact Or.inl rfl | exact Or.inr rfl)) (pgs_cons (pg_name (i := 7) sc_Parts___init__.nd rfl (by first | exact Or.inl rfl | exact Or.inr rfl)) (pgs_cons (pg_name (i := 8) sc_Parts___init__.nd rfl (by first | exact Or.inl rfl | exact Or.inr rfl)) pgs_nil))))))) (pss_cons (ps_asg (pe_tup (pa_cons (pe_callTy (callU al) (by rfl) n_tuple b_tuple (pa_cons (pv 5) pa_nil)) (pa_cons (pe_callTy (callU al) (by rfl) n_tuple b_tuple (pa_cons (pv 6) pa_nil)) (pa_cons (pv 7) (pa_cons (pv 8) pa_nil))))) (pg_sub (pe_fldU K (pv 0) rfl) (pv 4) (setU al))) (pss_cons (ps_asg (pe_mth G_led_to (hr.mono (by first | decide | omega)) (pv 0) (pa_cons (pv 5) pa_nil)) (pg_sub (pe_fldU K (pv 0) rfl) (pv 4) (setU al))) (pss_one (ps_frz (ps_if (pt_cmpR (opU al) (pe_sumVals al.calm (by rfl) n_sum (pe_ix (ixU al) (pe_fldU K (pv 0) rfl) (pv 4) (fun _ _ => rfl))) (pe_gi c_MOST_LED rfl) (nomark _)) (pss_one ps_never) pss_nil))))))))))), ?_⟩
    repeat tb_start
    refine new_dK S fun a H1 S1 => ?_
    repeat tb_start
    refine sfdQ 1 S1 rfl clP nRows (by decide) rfl fun H2 S2 => ?_
    repeat tb_start
    refine new_dK S2 fun l H3 S3 => ?_
    repeat tb_start
    refine sfdQ 2 S3 rfl clP nLed (by show 1 < 1000; decide) rfl fun H4 S4 => ?_
    replace S4 : Ok ⟨B, H, [p]⟩ B [(l, .dK []), (a, .dK []), (p, .ins CP dx (fldsP a l))] H4 := S4
    repeat tb_start
    refine enuD S4 hv fun J src => ?_
    refine forDS src S4 (fun i σ B1 L1 => ∃ x1 x2 x3 x4 x5 x6 x7 rkv lkv, σ = [some (.ref p), some v, x1, x2, x3, x4, x5, x6, x7] ∧ RowKV K B1 rkv (rs.take i) ∧ LedKV B1 lkv (ledOf (rs.take i)) ∧ L1 = [(l, .dK lkv), (a, .dK rkv), (p, .ins CP dx (fldsP a l))])
      (fun i σ B1 L1 e _ => e) ?_ ?_ ?_
    · exact ⟨_, _, _, _, _, _, _, _, _, rfl, .nil, .nil, rfl⟩
    · rintro i y xv σ B1 B3 L1 H5 hget ⟨_, _, _, _, _, _, _, rkv, lkv, rfl, RK0, LK0, rfl⟩ e3 e4 S5 ⟨T, u, rfl, hT, hu⟩
      obtain ⟨hr1, hr2⟩ := zipIdx_at hget
      have RK := RK0.up e4
      have LK := LK0.up e4
      have R := G.row i _ hr1
      have hi : i < rs.length := (List.getElem?_eq_some_iff.mp hr1).1
      have hlen := G.len
      refine r_gtupB S5 hT rfl ?_
      repeat tb_start
      have names_len : ((rs.take i).map (·.name)).length ≤ 12 := by rw [List.length_map, List.length_take]; omega
      refine ⟨B3, p, dx, a, l, u, rkv, (rs.take i).map (·.name), y.1, rfl, S5.ex, by kts_caught, by kts_caught, RK.keys, hu, R, names_len, fun B6 H6 T6 => ?_⟩
      have S6 := S5.callP T6
      have e6 := T6.ex0
      repeat tb_start
      refine r_gtupRow S6 (hu.up e6) fun v2 v3 h2 h3 => ?_
      repeat tb_start
      refine v_tupDT S6 h2 ?_
      repeat tb_start
      refine v_tupDT S6 h3 ?_
      repeat tb_start
      refine new_tupD S6 (.cons h2 (.cons h3 (.cons (.int _) (.cons (.int _) .nil)))) (by simp) fun t B7 H7 e7 S7 ht => ?_
      repeat tb_start
      refine v_setKN (k := .inr y.1.name) 1 S7 rfl rfl ?_ fun H8 S8 => ?_
      · have := congrArg List.length RK.keys
        rw [List.length_map, List.length_map] at this
        rw [this, sizeLine_eq]
        omega
      have no : valV rkv (.inr y.1.name) = none := valV_none (by
        rw [RK.keys]
        intro z
        obtain ⟨x, hx, e⟩ := List.mem_map.mp z
        exact R.new (Sum.inr.inj e ▸ hx))
      rw [putK_new _ no] at S8
      replace S8 : Ok ⟨B, H, [p]⟩ B7 [(l, .dK lkv), (a, .dK (rkv ++ [(.inr y.1.name, .ref t)])), (p, .ins CP dx (fldsP a l))] H8 := S8
      have RK8 : RowKV K B7 (rkv ++ [(.inr y.1.name, .ref t)]) (rs.take (i + 1)) := by
        rw [List.take_add_one, hr1]
        exact ((RK.up e6).up e7).snoc ht
      have LK8 := (LK.up e6).up e7
      repeat tb_start
      refine ⟨B7, p, dx, a, l, v2, _, lkv, (rs.take i).map (·.name) ++ [y.1.name], ledOf (rs.take i), y.1.needs, rfl, S8.ex, by kts_caught, S8.mem (.tail _ (.head _)), (S8.own _ (.tail _ (.head _))).2, ?_, ?_, ?_, by kts_caught, LK8, h2.up e7, G.needs hr1, fun D B9 H9 e9 T9 => ?_⟩
      · rw [← take_succ_map hr1]
        exact RK8.keys
      · rw [← take_succ_map hr1]
        exact G.nodup _
      · rw [← take_succ_map hr1, List.length_map, List.length_take]; omega
      have S9 := S8.callN T9
      have hm : ledTo ((rs.take i).map (·.name) ++ [y.1.name]) (ledOf (rs.take i)) y.1.needs = ledTo ((ledOf (rs.take i)).map (·.1) ++ [y.1.name]) (ledOf (rs.take i)) y.1.needs := by rw [ledOf_names]
      rw [hm] at S9
      have hstep : ledOf (rs.take (i + 1)) = ledOf (rs.take i) ++ [(y.1.name, ledTo ((ledOf (rs.take i)).map (·.1) ++ [y.1.name]) (ledOf (rs.take i)) y.1.needs)] := ledOf_take hr1
      generalize ledTo ((ledOf (rs.take i)).map (·.1) ++ [y.1.name]) (ledOf (rs.take i)) y.1.needs = m at S9 hstep
      have hsum : (m.map (·.2)).sum ≤ 200 := G.led (y.1.name, m) (ledOf_sub (i + 1) _ (by rw [hstep]; exact List.mem_append_right _ (.head _)))
      repeat tb_start
      refine v_setKN (k := .inr y.1.name) 1 S9 rfl rfl ?_ fun H10 S10 => ?_
      · have := congrArg List.length LK.keys
        have h2 := congrArg List.length (ledOf_names (rs.take i))
        rw [List.length_map, List.length_map] at this h2
        rw [List.length_take] at h2
        rw [this, sizeLine_eq]
        omega
      have noL : valV lkv (.inr y.1.name) = none := valV_none (by
        rw [LK.keys]
        intro z
        obtain ⟨x, hx, e⟩ := List.mem_map.mp z
        refine R.new ?_
        rw [← ledOf_names]
        exact List.mem_map.mpr ⟨x, hx, Sum.inr.inj e⟩)
      rw [putK_new _ noL] at S10
      replace S10 : Ok ⟨B, H, [p]⟩ B9 [(D, .dK (kvI m)), (l, .dK (lkv ++ [(.inr y.1.name, .ref D)])), (a, .dK (rkv ++ [(.inr y.1.name, .ref t)])), (p, .ins CP dx (fldsP a l))] H10 := S10
      repeat tb_start
      refine frzS (S10.own _ (.head _)).1 trivial fun od => ?_
      obtain ⟨B11, e11, hD, S11⟩ := S10.freezeD (od := od)
      repeat tb_start
      refine v_ixDS (kvs := lkv ++ [(.inr y.1.name, .ref D)]) (by kts_caught) (by rw [valV_snoc _ _ _ _ noL, if_pos rfl]) ?_
      refine sumQ (by kts_caught) (kvI_vals m) ?_
      repeat tb_start
      refine NxE.mk' S11 (e3.trans <| e4.trans (e6.trans (e7.trans (e9.trans e11)))) ?_
      refine ⟨_, _, _, _, _, _, _, _, _, rfl, (RK8.up e9).up e11, ?_, rfl⟩
      rw [hstep]
      exact ((LK8.up e9).up e11).snoc hD
    · rintro σ B1 L1 H5 ⟨_, _, _, _, _, _, _, rkv, lkv, rfl, RK, LK, rfl⟩ e3 S5
      rw [List.length_zipIdx, List.take_length] at RK LK
      exact k a l rkv lkv _ _ e3 RK LK S5
end
end LW

namespace LW
open PySem PySem.Spec PyProof.Rows L2 WK PM
abbrev s__law_led : Stmt := topS 32
theorem sc__law_led : FnScope ["_law_rows", "_law_needs", "_law_found", "_law_part", "_law_many", "_law_inner", "_law_row", "_law_other"] ["_law_rows", "_law_needs"] (defScope s__law_led) := ⟨rfl, rfl, rfl, by decide +kernel, rfl, by decide +kernel, by decide +kernel⟩
def spLL (K : PySem.W.Frag) : Nat → Sp
  | 0 => fun _ _ _ _ => False
  | n + 1 => fun vs H Q _ => ∃ (B : Hp) (a : Addr) (xs : List V) (v : V) (d : PyData) (rs : List PRow) (needs : List (Str × Int)), vs = [.ref a, v] ∧ Ex B H ∧ SqL K H a xs ∧ DpAll K B xs (rs.map encRow) ∧ Dp K B v d ∧ (d = .list (needs.map encNeed) ∨ d = .tuple (needs.map encNeed)) ∧ GoodBook rs ∧
      (∀ x ∈ needs, x.1 ∈ (rs.take n).map (·.name)) ∧ (∀ x ∈ needs, 1 ≤ x.2 ∧ x.2 ≤ 9) ∧ needs.length ≤ 12 ∧ ∀ D H', Ok ⟨B, H, []⟩ B [(D, .dK (kvI (lawLed rs n needs)))] H' → Q (.ref D) H'
section
variable {P : Program} {w : World} {K : PySem.W.Frag} {mg : Str → Option Value} {base : Heap}
theorem ok__law_led0 {f : Addr} {fd : FuncData} : FnOk P w K mg base CX0 0 f fd ["_law_rows", "_law_needs"] (spLL K 0) := by
  exact ⟨fun vs H Q E h => False.elim h, fun _ _ _ _ _ _ _ _ _ _ _ _ _ h => False.elim h⟩
theorem ok__law_ledS {f : Addr} {fd : FuncData} {n : Nat} (F : Fun K "_law_led" "_law_led" s__law_led f fd) (G__law_led : FnG P w K mg base n "_law_led" ["_law_rows", "_law_needs"] (spLL K n)) : FnOk P w K mg base CX0 (n + 1) f fd ["_law_rows", "_law_needs"] (spLL K (n + 1)) := by
  refine F.ok sc__law_led (fun vs H Q E h => ?_) (fun cdv A outer s H vs Q E hr h => ?_)
  · obtain ⟨B, a, xs, v, d, rs, needs, rfl, _⟩ := h
    rfl
  · obtain ⟨B, a, xs, v, d, rs, needs, rfl, ex, hq, hda, hv, hd, G, hn, hb, hlen, k⟩ := h
    have S : Ok ⟨H, H, []⟩ H [] H := Ok.start0 (Ex.refl H)
    have hrows : Dp K H (.ref a) (.list (rs.map encRow)) := .lst hq (hda.up ex)
    have glen := G.len
    refine with_al (P := P) (w := w) (K := K) hr (fun al => ?_)
    refine ⟨_, (pss_cons (ps_asg pe_dnewK (pg_name (i := 2) sc__law_led.nd rfl (by first | exact Or.inl rfl | exact Or.inr rfl))) (pss_cons (ps_for PassesOwn.never rfl (pi_val al (pv 1)) (pg_tupU (n := 2) K (pgs_cons (pg_name (i := 3) sc__law_led.nd rfl (by first | exact Or.inl rfl | exact Or.inr rfl)) (pgs_cons (pg_name (i := 4) sc__law_led.nd rfl (by first | exact Or.inl rfl | exact Or.inr rfl)) pgs_nil))) (pss_cons (ps_asg (pe_op (opU al) (pe_bmU K PySem.F.plainAttrs_dict PySem.F.slot_dict_get PySem.F.type_dict_get (metU al) (pv 2) (pa_cons (pv 3) (pa_cons pe_int pa_nil))) (pv 4)) (pg_sub (pv 2) (pv 3) (setU al))) (pss_cons (ps_asg (pe_fn G__law_led (hr.mono (by first | decide | omega)) rfl (pa_cons (pv 0) (pa_cons (pe_ix (ixU al) (pe_lc (own := [("_law_row", 6)]) al.calm sc__law_led.nd (pi_val al (pv 0)) (blkOk_by (own := [("_law_row", 6)]) (N := ["_law_rows", "_law_needs", "_law_found", "_law_part", "_law_many", "_law_inner", "_law_row", "_law_other"]) (sc := (defScope s__law_led)) (by decide +kernel)) (fun _ _ _ _ _ => (pg_name (i := 6) sc__law_led.nd rfl (by first | exact Or.inl rfl | exact Or.inr rfl))) (fun _ _ _ _ _ => pts_one (pt_cmpR (opU al) (pe_ix (ixU al) (pv 6) pe_int (fun _ _ => rfl)) (pv 3) (nomark _))) (fun _ _ _ _ _ => (pe_ix (ixU al) (pv 6) pe_int (fun _ _ => rfl)))) pe_int (fun _ _ => rfl)) pa_nil))) (pg_name (i := 5) sc__law_led.nd rfl (by first | exact Or.inl rfl | exact Or.inr rfl))) (pss_one (ps_frz (ps_for PassesOwn.never rfl (pi_keys (pv 5)) (pg_name (i := 7) sc__law_led.nd rfl (by first | exact Or.inl rfl | exact Or.inr rfl)) (pss_one (ps_asg (pe_op (opU al) (pe_bmU K PySem.F.plainAttrs_dict PySem.F.slot_dict_get PySem.F.type_dict_get (metU al) (pv 2) (pa_cons (pv 7) (pa_cons pe_int pa_nil))) (pe_op (opU al) (pv 4) (pe_ix (ixU al) (pv 5) (pv 7) (fun _ _ => rfl)))) (pg_sub (pv 2) (pv 7) (setU al)))))))))) (pss_one (ps_ret (pv 2))))), ?_⟩
    repeat tb_start
    refine new_dK S fun D H1 S1 => ?_
    repeat tb_start
    refine forDA S1 (hv.up ex) hd (fun i σ B1 L1 => ∃ x1 x2 x3 x4 x5, σ = [some (.ref a), some v, some (.ref D), x1, x2, x3, x4, x5] ∧ L1 = [(D, .dK (kvI ((needs.take i).foldl (lawStep fun s => lawLed rs (n - 1) (needsOf rs s)) [])))]) ?_ ?_ ?_
    · exact ⟨_, _, _, _, _, rfl, rfl⟩
    · rintro i x xv σ B1 B3 L1 H3 hget ⟨_, _, _, _, _, rfl, rfl⟩ e3 e4 S5 hxv
      have hmem := List.mem_of_getElem? hget
      obtain ⟨m1, m2⟩ := hb x hmem
      obtain ⟨n, rfl⟩ : ∃ n', n = n' + 1 := by
        cases n with
        | zero => have := hn x hmem; cases this
        | succ n' => exact ⟨n', rfl⟩
      obtain ⟨r, hr1, hr2, hr3, hr4, hr5, hr6⟩ := G.at (hn x hmem)
      have hp1 := names_take (hn x hmem)
      have inner := lawLed_fine G n r.needs hr4
      have eR : needsOf rs x.1 = r.needs := by rw [← hr2]; exact needsOf_row G hr1
      rw [foldl_take_succ hget]
      have fine : Fine (rs.map (·.name)) ((needs.take i).foldl (lawStep fun s => lawLed rs n (needsOf rs s)) []) := by
        refine lawFold_fine (fun p hp => names_take (hn p (List.mem_of_mem_take hp))) (fun p hp => ?_) (Fine.nil _)
        obtain ⟨r2, q1, q2, _, q4, _⟩ := G.at (hn p (List.mem_of_mem_take hp))
        rw [← q2, needsOf_row G q1]
        exact (lawLed_fine G n r2.needs q4).sub
      show _
      have hsub : n + 1 - 1 = n := rfl
      rw [hsub] at S5 ⊢
      generalize (needs.take i).foldl (lawStep fun s => lawLed rs n (needsOf rs s)) [] = f at S5 fine ⊢
      have flen := fine.len
      rw [List.length_map] at flen
      have step : lawStep (fun s => lawLed rs n (needsOf rs s)) f x = addAll x.2 (addA f x.1 x.2) (lawLed rs n r.needs) := by
        show addAll x.2 (addA f x.1 x.2) (lawLed rs n (needsOf rs x.1)) = _
        rw [eR]
      rw [step]
      refine r_gtupSI S5 hxv ?_
      repeat tb_start
      rw [get_kvI]
      repeat tb_start
      refine v_setKN (k := .inr x.1) 0 S5 rfl rfl (by rw [List.length_map, sizeLine_eq]; omega) fun H4 S6 => ?_
      rw [putK_kvI] at S6
      replace S6 : Ok _ B3 [(D, .dK (kvI (addA f x.1 x.2)))] H4 := S6
      have fine1 := addA_fine (v := x.2) fine hp1
      generalize addA f x.1 x.2 = g at S6 fine1 ⊢
      repeat tb_start
      have e5 := e3.trans e4
      refine lcPureL S6 (hrows.up e5) (fun r => decide (r.name = x.1)) (fun r => .tuple (r.needs.map encNeed)) (by omega) ?_ ?_
      · intro r0 xv2 B6 D6 acc H6 C Cs hmem0 e6 S7 hv0 kC kS
        repeat tb_start
        refine ⟨rfl, ?_⟩
        repeat tb_start
        refine v_ixDT (j := 0) S7 hv0 rfl rfl fun u hu => ?_
        obtain rfl := hu.str_inv
        repeat tb_start
        refine ifd (fun hh => ?_) (fun hh => ?_)
        · repeat tb_start
          refine v_ixDT (j := 1) S7 hv0 rfl rfl fun u hu => ?_
          exact kC _ _ _ (decide_eq_true hh) (Ex.refl _) S7 hu
        · exact kS _ _ (decide_eq_false hh) (Ex.refl _) S7
      · intro D6 acc B6 H6 e6 S7 hacc
        rw [hr3] at hacc
        obtain ⟨v0, _, rfl, hv0, hnil⟩ := hacc.cons_inv
        obtain rfl := hnil.nil_inv
        repeat tb_start
        have e7 := e5.trans e6
        refine ⟨B6, a, xs, v0, _, rs, r.needs, rfl, S7.ex, S7.sqB (e7.sqL hq), (hda.up ex).up e7, hv0, .inr rfl, G, hr4, hr5, hr6, fun D2 H7 T7 => ?_⟩
        have S8 := (S7.callN T7)
        generalize lawLed rs n r.needs = m at S8 inner ⊢
        replace S8 : Ok _ B6 [(D2, .dK (kvI m)), (D6, .lst [v0]), (D, .dK (kvI g))] H7 := S8
        have S9 : Ok _ B6 [(D2, .dK (kvI m)), (D, .dK (kvI g))] H7 := (S8.swap.drop)
        repeat tb_start
        refine frzS (S9.own _ (.head _)).1 trivial fun od => ?_
        obtain ⟨B9, e9, hD2, S10⟩ := S9.freezeD (od := od)
        repeat tb_start
        refine keyQ (S10.ex _ _ hD2) ?_
        refine forDS src_keysI S10 (fun j σ B1 L1 => ∃ x4 x5, σ = [some (.ref a), some v, some (.ref D), some (.str x.1), some (.int x.2), some (.ref D2), x4, x5] ∧ L1 = [(D, .dK (kvI (addAll x.2 g (m.take j))))]) (fun j σ B1 L1 e10 _ => .inl (e10 _ _ hD2)) ?_ ?_ ?_
        · exact ⟨_, _, rfl, rfl⟩
        · rintro j y yv σ B1 B11 L1 H8 hgetj ⟨_, _, rfl, rfl⟩ e10 e11 S11 rfl
          have hym := List.mem_of_getElem? hgetj
          have hyn := inner.sub y hym
          unfold addAll at S11 ⊢
          rw [foldl_take_succ hgetj]
          have fine2 := addAll_fine (m := x.2) (more := m.take j) (fun z hz => inner.sub z (List.mem_of_mem_take hz)) fine1
          unfold addAll at fine2
          generalize (m.take j).foldl (fun f p => addA f p.1 (x.2 * p.2)) g = q at S11 fine2 ⊢
          have qlen := fine2.len
          rw [List.length_map] at qlen
          repeat tb_start
          rw [get_kvI]
          refine v_ixDS (kvs := kvI m) (S11.rdStayF (e11 _ _ (e10 _ _ hD2))) (by rw [valV_kvI, getA_nodup hym inner.nd]; rfl) ?_
          repeat tb_start
          refine v_setKN (k := .inr y.1) 0 S11 rfl rfl (by rw [List.length_map, sizeLine_eq]; omega) fun H9 S12 => ?_
          rw [putK_kvI] at S12
          refine NxE.mk' S12 (e10.trans e11) ?_
          exact ⟨_, _, rfl, rfl⟩
        · rintro σ B1 L1 H8 ⟨_, _, rfl, rfl⟩ e10 S11
          rw [List.take_length] at S11
          refine NxE.mk' S11 (((e3.trans e4).trans e6).trans (e9.trans e10)) ?_
          exact ⟨_, _, _, _, _, rfl, rfl⟩
    · rintro σ B1 L1 H3 ⟨_, _, _, _, _, rfl, rfl⟩ e3 S5
      rw [List.take_length] at S5
      repeat tb_start
      refine k D _ (Ok.rebase (B' := B1) ex ?_)
      cases n with
      | zero =>
        cases needs with
        | nil => exact S5
        | cons p needs => have := hn p (.head _); cases this
      | succ n => exact S5
end
end LW

namespace LW
open PySem PySem.Spec PyProof.Rows L2 WK PM
abbrev s__law_parts : Stmt := topS 33
theorem sc__law_parts : FnScope ["_law_h", "_law_most", "_law_found", "_law_k", "_law_needs", "_law_row", "_law_steps_here", "_law_j", "_law_name"] ["_law_h", "_law_most"] (defScope s__law_parts) := ⟨rfl, rfl, rfl, by decide +kernel, rfl, by decide +kernel, by decide +kernel⟩
def PSn (K : PySem.W.Frag) (F : Ent) (B1 : Hp) (p q D : Addr) (acc : List V) (rs : List PRow) (z mx : Int) : L2.St → Hp → Prop := fun σ' H' => ∃ vn ns x5 x6 x7 x8 m cs kk B', σ' = [some (.ref p), some (.int mx), some (.ref D), some (.int z), some vn, x5, x6, x7, x8] ∧
  Ok F B' ((D, .lst acc) :: hL p q m cs kk) H' ∧ Ex B1 B' ∧ HS cs kk ∧ Dp K B' vn (.list (ns.map encNeed)) ∧ NsOk rs ns
def PSt (K : PySem.W.Frag) (F : Ent) (B1 : Hp) (p q D : Addr) (acc : List V) (rs : List PRow) (z mx : Int) (W : List (Str × Int) → Prop) : L2.St → Hp → Prop := fun σ' H' => ∃ vn ns vs st x5 x7 x8 m cs kk B', σ' = [some (.ref p), some (.int mx), some (.ref D), some (.int z), some vn, x5, some vs, x7, x8] ∧
  Ok F B' ((D, .lst acc) :: hL p q m cs kk) H' ∧ Ex B1 B' ∧ HS cs kk ∧ Dp K B' vn (.list (ns.map encNeed)) ∧ NsOk rs ns ∧ Dp K B' vs (.tuple (st.map encStep)) ∧ StOk st ∧ (z = 0 → st = []) ∧ W ns
/-- the first row has no steps -/
def Fst (rs : List PRow) : Prop := ∀ r, rs[0]? = some r → r.steps = []
/-- a draw, wherever the state stands in the ledger -/
theorem nextQ {F : Ent} {B H : Hp} {Q : VK} {p q : Addr} {m : Int} {cs : List Int} {kk many : Int} (L1 L2 : Led) (S : Ok F B (L1 ++ (hL p q m cs kk ++ L2)) H) (hS : HS cs kk) (h0 : 0 < many) (h1 : many < 1073741824)
    (k : ∀ r m' cs' kk' H', 0 ≤ r → r < many → HS cs' kk' → Ok F B (L1 ++ (hL p q m' cs' kk' ++ L2)) H' → Q (.int r) H') : spNext [.ref p, .int many] H Q E0 := by
  have S1 : Ok F B (hL p q m cs kk ++ (L1 ++ L2)) H := S.perm (by
    rw [← List.append_assoc, ← List.append_assoc]
    exact List.Perm.append_right _ List.perm_append_comm)
  refine ⟨B, p, q, m, cs, kk, many, rfl, S1.sub (L1 := hL p q m cs kk), hS, h0, h1, fun r m' cs' kk' H' r0 r1 hS' T => k r m' cs' kk' H' r0 r1 hS' ?_⟩
  have S2 : Ok F B (hL p q m' cs' kk' ++ (L1 ++ L2)) H' := S1.call (L1 := hL p q m cs kk) (L2 := L1 ++ L2) T
  exact S2.perm (by
    rw [← List.append_assoc, ← List.append_assoc]
    exact List.Perm.append_right _ List.perm_append_comm)
def spLParts (K : PySem.W.Frag) : Sp := fun vs H Q _ => ∃ (B : Hp) (p q : Addr) (m : Int) (cs : List Int) (kk mx : Int), vs = [.ref p, .int mx] ∧ 1 ≤ mx ∧ mx ≤ 12 ∧ Ok ⟨B, H, [p, q]⟩ B (hL p q m cs kk) H ∧ HS cs kk ∧
  ∀ r rs m' cs' kk' B' H', Ex B B' → MyBook rs → Fst rs → rs ≠ [] → (rs.length : Int) ≤ mx → Dp K B' r (.list (rs.map encRow)) → HS cs' kk' → Ok ⟨B, H, [p, q]⟩ B' (hL p q m' cs' kk') H' → Q r H'
section
variable {P : Program} {w : World} {K : PySem.W.Frag} {mg : Str → Option Value} {base : Heap}
theorem ok__law_parts {f : Addr} {fd : FuncData} (F : Fun K "_law_parts" "_law_parts" s__law_parts f fd) (G__law_next : FnG P w K mg base 1 "_law_next" ["_law_h", "_law_many"] spNext) (G__law_led : FnG P w K mg base 13 "_law_led" ["_law_rows", "_law_needs"] (spLL K 13))
    (n_range : mg "range" = none) (n_tuple : mg "tuple" = none) (n_sum : mg "sum" = none) : FnOk P w K mg base CX0 14 f fd ["_law_h", "_law_most"] (spLParts K) := by
  refine F.ok sc__law_parts (fun vs H Q E h => ?_) (fun cdv A outer s H vs Q E hr h => ?_)
  · obtain ⟨B, p, q, m, cs, kk, mx, rfl, _⟩ := h
    rfl
  · obtain ⟨B, p, q, m, cs, kk, mx, rfl, hx1, hx2, S, hS, k⟩ := h
    refine with_al (P := P) (w := w) (K := K) hr (fun al => ?_)
    refine ⟨_, (pss_cons (ps_asg (pe_lst pa_nil) (pg_name (i := 2) sc__law_parts.nd rfl (by first | exact Or.inl rfl | exact Or.inr rfl))) (pss_cons (ps_for PassesOwn.never rfl (pi_range1 (by rfl) n_range (pa_cons (pe_op (opU al) pe_int (pe_fn G__law_next (hr.mono (by first | decide | omega)) rfl (pa_cons (pv 0) (pa_cons (pv 1) pa_nil)))) pa_nil)) (pg_name (i := 3) sc__law_parts.nd rfl (by first | exact Or.inl rfl | exact Or.inr rfl)) (pss_cons (ps_setLc (i := 4) (own := [("_law_row", 5)]) al.calm sc__law_parts.nd rfl rfl (sw_true rfl rfl rfl (by decide +kernel)) (pi_val al (pv 2)) (blkOk_by (own := [("_law_row", 5)]) (N := ["_law_h", "_law_most", "_law_found", "_law_k", "_law_needs", "_law_row", "_law_steps_here", "_law_j", "_law_name"]) (sc := (defScope s__law_parts)) (by decide +kernel)) (fun _ _ _ _ _ => (pg_name (i := 5) sc__law_parts.nd rfl (by first | exact Or.inl rfl | exact Or.inr rfl))) (fun _ _ _ _ _ => pts_one (pt_cmpR (opU al) (pe_fn G__law_next (hr.mono (by first | decide | omega)) rfl (pa_cons (pv 0) (pa_cons pe_int pa_nil))) pe_int (nomark _))) (fun _ _ _ _ _ => (pe_tup (pa_cons (pe_ix (ixU al) (pv 5) pe_int (fun _ _ => rfl)) (pa_cons (pe_op (opU al) pe_int (pe_fn G__law_next (hr.mono (by first | decide | omega)) rfl (pa_cons (pv 0) (pa_cons pe_int pa_nil)))) pa_nil))))) (pss_cons (ps_cut (ps_asg (pe_ifExp (pt_cmpR (opU al) (pe_fn G__law_next (hr.mono (by first | decide | omega)) rfl (pa_cons (pv 0) (pa_cons pe_int pa_nil))) pe_int (nomark _)) (pe_revL (pv 4)) (pv 4)) (pg_name (i := 4) sc__law_parts.nd rfl (by first | exact Or.inl rfl | exact Or.inr rfl)))) (pss_cons (ps_asg (pe_callTy (callU al) (by rfl) n_tuple b_tuple (pa_cons (pe_lc (own := [("_law_j", 7)]) al.calm sc__law_parts.nd (pi_range1 (by rfl) n_range (pa_cons (pe_fn G__law_next (hr.mono (by first | decide | omega)) rfl (pa_cons (pv 0) (pa_cons pe_int pa_nil))) pa_nil)) (blkOk_by (own := [("_law_j", 7)]) (N := ["_law_h", "_law_most", "_law_found", "_law_k", "_law_needs", "_law_row", "_law_steps_here", "_law_j", "_law_name"]) (sc := (defScope s__law_parts)) (by decide +kernel)) (fun _ _ _ _ _ => (pg_name (i := 7) sc__law_parts.nd rfl (by first | exact Or.inl rfl | exact Or.inr rfl))) (fun _ _ _ _ _ => pts_nil) (fun _ _ _ _ _ => (pe_tup (pa_cons (pe_fn G__law_next (hr.mono (by first | decide | omega)) rfl (pa_cons (pv 0) (pa_cons (pe_ix (ixU al) (pe_lst (pa_cons pe_int (pa_cons pe_int pa_nil))) (pe_fn G__law_next (hr.mono (by first | decide | omega)) rfl (pa_cons (pv 0) (pa_cons pe_int pa_nil))) (fun _ _ => rfl)) pa_nil))) (pa_cons (pe_op (opU al) pe_int (pe_fn G__law_next (hr.mono (by first | decide | omega)) rfl (pa_cons (pv 0) (pa_cons pe_int pa_nil)))) pa_nil))))) pa_nil)) (pg_name (i := 6) sc__law_parts.nd rfl (by first | exact Or.inl rfl | exact Or.inr rfl))) (pss_cons (ps_cut (ps_if (PW.pt (pw_or (pt_cmpR (opU al) (pe_fn G__law_next (hr.mono (by first | decide | omega)) rfl (pa_cons (pv 0) (pa_cons pe_int pa_nil))) pe_int (nomark _)) (pw_or1 (pt_cmpR (opU al) (pv 3) pe_int (nomark _))))) (pss_one (ps_par (i := 4) (j := 6) al.calm sc__law_parts.nd rfl rfl (by decide) rfl rfl (pa_cons (pe_lst pa_nil) (pa_cons (pe_tup pa_nil) pa_nil)) (by rfl))) pss_nil)) (pss_cons (ps_cut (ps_if (pt_cmpR (opU al) (pe_sumVals al.calm (by rfl) n_sum (pe_fn G__law_led (hr.mono (by first | decide | omega)) rfl (pa_cons (pv 2) (pa_cons (pv 4) pa_nil)))) pe_int (nomark _)) (pss_one (ps_asg (pe_lst pa_nil) (pg_name (i := 4) sc__law_parts.nd rfl (by first | exact Or.inl rfl | exact Or.inr rfl)))) pss_nil)) (pss_cons (ps_asg (pe_op (opU al) pe_str (pe_ix (ixU al) pe_str (pv 3) (fun _ _ => rfl))) (pg_name (i := 8) sc__law_parts.nd rfl (by first | exact Or.inl rfl | exact Or.inr rfl))) (pss_one (ps_expr (pe_bmU K PySem.F.plainAttrs_list PySem.F.slot_list_append PySem.F.type_list_append (metU al) (pv 2) (pa_cons (pe_tup (pa_cons (pv 8) (pa_cons (pe_callTy (callU al) (by rfl) n_tuple b_tuple (pa_cons (pv 4) pa_nil)) (pa_cons (pv 6) (pa_cons (pe_op (opU al) pe_int (pe_fn G__law_next (hr.mono (by first | decide | omega)) rfl (pa_cons (pv 0) (pa_cons pe_int pa_nil)))) (pa_cons (pe_fn G__law_next (hr.mono (by first | decide | omega)) rfl (pa_cons (pv 0) (pa_cons pe_int pa_nil))) pa_nil)))))) pa_nil))))))))))) (pss_one (ps_ret (pv 2))))), ?_⟩
    repeat tb_start
    refine new_lst S (by decide) fun D H1 S1 => ?_
    repeat tb_start
    refine nextQ [(D, .lst [])] [] S1 hS (by omega) (by omega) fun n0 m1 cs1 kk1 H2 r0 r1 hS1 S2 => ?_
    repeat tb_start
    refine rngQ (by omega) (by omega) ?_
    refine forDS src_range S2 (fun i σ B1 L1 => ∃ x3 x4 x5 x6 x7 x8 rs acc m cs kk, σ = [some (.ref p), some (.int mx), some (.ref D), x3, x4, x5, x6, x7, x8] ∧ MyBook rs ∧ Fst rs ∧ rs.length = i ∧ DpAll K B1 acc (rs.map encRow) ∧ HS cs kk ∧ L1 = (D, .lst acc) :: hL p q m cs kk) (fun _ _ _ _ _ _ => True.intro) ?_ ?_ ?_
    · exact ⟨_, _, _, _, _, _, [], [], _, _, _, rfl, ⟨GoodBook.nil, fun i r h => by simp at h⟩, (fun r h => by simp at h), rfl, .nil, hS1, rfl⟩
    · rintro i i2 x σ B0 B1 L1 H3 hget ⟨_, _, _, _, _, _, rs, acc, m, cs, kk, rfl, M, hFst, hlen, hacc0, hS3, rfl⟩ e1 e2 S3 rfl
      have hacc := hacc0.up e2
      obtain ⟨hi, rfl⟩ : i < (1 + n0).toNat ∧ i2 = i := by
        have h1 := (List.getElem?_eq_some_iff.mp hget).1
        rw [List.length_range] at h1
        refine ⟨h1, ?_⟩
        rw [List.getElem?_range h1] at hget
        exact (Option.some.inj hget).symm
      have hi12 : rs.length < 12 := by omega
      have hz : (0 : Int) + (i2 : Nat) = (rs.length : Int) := by omega
      rw [hz]
      generalize hzz : (rs.length : Int) = z
      repeat tb_start
      refine ItU.list (S3.sqMem (.head _)) (lcD (src_lst (xs := acc) (as := rs) (enc := encRow)) S3 (fun j acc2 B2 L2 => ∃ (ns : List (Str × Int)) (m : Int) (cs : List Int) (kk : Int), L2 = (D, .lst acc) :: hL p q m cs kk ∧ Ex B1 B2 ∧ HS cs kk ∧ DpAll K B2 acc2 (ns.map encNeed) ∧ (ns.map (·.1)).Sublist ((rs.take j).map (·.name)) ∧ ∀ x ∈ ns, 1 ≤ x.2 ∧ x.2 ≤ 9) ?_ ?_ ?_ ?_)
      · exact ⟨[], _, _, _, rfl, Ex.refl _, hS3, .nil, List.Sublist.refl _, fun _ h => nomatch h⟩
      · rintro j acc2 B2 L2 D2 _ ⟨ns, m, cs, kk, rfl, e3, _⟩
        exact ⟨.inr (.tail _ (.head _)), hacc.up e3⟩
      · rintro j r xv acc2 B2 B4 L2 D2 H4 hgr ⟨ns, m, cs, kk, rfl, e3, hS4, hacc2, hsub, hmany⟩ e4 S4 hr0
        have hlen2 : acc2.length < sizeLine := by
          have h1 := hacc2.length
          have h2 := hsub.length_le
          rw [List.length_map] at h1
          rw [List.length_map, List.length_map, List.length_take] at h2
          rw [sizeLine_eq]
          omega
        repeat tb_start
        refine ⟨rfl, ?_⟩
        repeat tb_start
        refine nextQ [(D2, .lst acc2), (D, .lst acc)] [] S4 hS4 (by decide) (by decide) fun r1 m1 cs1 kk1 H5 q0 q1 hS5 S5 => ?_
        repeat tb_start
        refine ifd (fun hh => ?_) (fun hh => ?_)
        · repeat tb_start
          refine v_ixDT (j := 0) S5 hr0 rfl rfl fun u hu => ?_
          obtain rfl := hu.str_inv
          repeat tb_start
          refine nextQ [(D2, .lst acc2), (D, .lst acc)] [] S5 hS5 (by decide) (by decide) fun r2 m2 cs2 kk2 H6 q2 q3 hS6 S6 => ?_
          repeat tb_start
          refine new_tupD (K := K) S6 (.cons (.str _) (.cons (.int _) .nil)) (by simp) fun t B7 H7 e7 S7 ht => ?_
          refine Acc.mk S7 hlen2 ⟨ns ++ [(r.name, 1 + r2)], m2, cs2, kk2, rfl, e3.trans (e4.trans e7), hS6, ?_, ?_, ?_⟩
          · rw [List.map_append]
            exact ((hacc2.up e4).up e7).append (.cons ht .nil)
          · rw [List.map_append, take_succ_map hgr]
            exact hsub.append (List.Sublist.refl _)
          · intro y hy
            rcases List.mem_append.mp hy with hy | hy
            · exact hmany y hy
            · rw [List.mem_singleton] at hy
              subst hy
              show 1 ≤ 1 + r2 ∧ 1 + r2 ≤ 9
              omega
        · refine Skp.mk S5 ⟨ns, m1, cs1, kk1, rfl, e3.trans e4, hS5, hacc2.up e4, ?_, hmany⟩
          rw [take_succ_map hgr]
          exact hsub.trans (List.sublist_append_left _ _)
      · rintro acc2 B2 L2 D2 H4 ⟨ns, m, cs, kk, rfl, e3, hS4, hacc2, hsub, hmany⟩ S4
        obtain ⟨B5, e5, S5, hns⟩ := S4.toData hacc2
        rw [List.take_length] at hsub
        have NO : NsOk rs ns := ⟨M.good.nd.sublist hsub, fun x hx => hsub.subset (List.mem_map.mpr ⟨x, hx, rfl⟩), hmany⟩
        repeat tb_start
        refine cutS (PSn K ⟨B, H, [p, q]⟩ B1 p q D acc rs z mx) ?_ ?_
        · repeat tb_start
          refine nextQ [(D, .lst acc)] [] S5 hS4 (by decide) (by decide) fun r1 m1 cs1 kk1 H5 q0 q1 hS6 S6 => ?_
          repeat tb_start
          refine ifd (fun hh => ?_) (fun hh => ?_)
          · repeat tb_start
            refine revD S6 hns fun r B7 H7 e7 S7 h7 => ?_
            repeat tb_start
            exact ⟨_, ns.reverse, _, _, _, _, _, _, _, _, rfl, S7, e3.trans (e5.trans e7), hS6, by rw [List.map_reverse]; exact h7, NO.rev⟩
          · repeat tb_start
            exact ⟨_, ns, _, _, _, _, _, _, _, _, rfl, S6, e3.trans e5, hS6, hns, NO⟩
        · clear S5 hS4 NO hns hsub hmany hacc2 S4 e5 e3
          rintro σ6 H6 ⟨vn, ns, x5, x6, x7, x8, m, cs, kk, B6, rfl, S6, e6, hS6, hvn, NO⟩
          repeat tb_start
          refine nextQ [(D, .lst acc)] [] S6 hS6 (by decide) (by decide) fun r1 m1 cs1 kk1 H5 q0 q1 hS7 S7 => ?_
          repeat tb_start
          refine rngQ (by omega) (by omega) ?_
          refine lcD src_range S7 (fun j acc2 B2 L2 => ∃ (st : List (Int × Int)) (m : Int) (cs : List Int) (kk : Int), L2 = (D, .lst acc) :: hL p q m cs kk ∧ Ex B6 B2 ∧ HS cs kk ∧ DpAll K B2 acc2 (st.map encStep) ∧ st.length = j ∧ ∀ x ∈ st, (0 ≤ x.1 ∧ x.1 < 6) ∧ 1 ≤ x.2 ∧ x.2 ≤ 99) ?_ (fun _ _ _ _ _ _ _ => True.intro) ?_ ?_
          · exact ⟨[], _, _, _, rfl, Ex.refl _, hS7, .nil, rfl, fun _ h => nomatch h⟩
          · rintro j j2 xv acc2 B2 B4 L2 D2 H8 hgr ⟨st, m, cs, kk, rfl, e3, hS4, hacc2, hl2, hst⟩ e4 S4 rfl
            have hjl : j < 4 := by
              have h1 := (List.getElem?_eq_some_iff.mp hgr).1
              rw [List.length_range] at h1
              omega
            repeat tb_start
            refine ⟨rfl, ?_⟩
            repeat tb_start
            refine new_lst S4 (by decide) fun D3 H9 S9 => ?_
            repeat tb_start
            refine nextQ [(D3, .lst [.int 6, .int 2]), (D2, .lst acc2), (D, .lst acc)] [] S9 hS4 (by decide) (by decide) fun r2 m2 cs2 kk2 H10 q2 q3 hS10 S10 => ?_
            obtain ⟨w, hw, w1, w2⟩ : ∃ w : Int, atI [V.int 6, V.int 2] r2 = some (.int w) ∧ 0 < w ∧ w ≤ 6 := by
              have : r2 = 0 ∨ r2 = 1 := by omega
              rcases this with rfl | rfl
              · exact ⟨6, rfl, by decide, by decide⟩
              · exact ⟨2, rfl, by decide, by decide⟩
            refine v_ixL (xs := [V.int 6, V.int 2]) (S10.sqMem (.head _)) hw ?_
            repeat tb_start
            refine nextQ [(D2, .lst acc2), (D, .lst acc)] [] S10.drop hS10 w1 (by omega) fun r3 m3 cs3 kk3 H11 q4 q5 hS11 S11 => ?_
            repeat tb_start
            refine nextQ [(D2, .lst acc2), (D, .lst acc)] [] S11 hS11 (by decide) (by decide) fun r4 m4 cs4 kk4 H12 q6 q7 hS12 S12 => ?_
            repeat tb_start
            refine new_tupD (K := K) S12 (.cons (.int _) (.cons (.int _) .nil)) (by simp) fun t B7 H7 e7 S13 ht => ?_
            have hl3 := hacc2.length
            rw [List.length_map] at hl3
            refine Acc.mk S13 (by rw [sizeLine_eq]; omega) ⟨st ++ [(r3, 1 + r4)], _, _, _, rfl, e3.trans (e4.trans e7), hS12, ?_, ?_, ?_⟩
            · rw [List.map_append]
              exact ((hacc2.up e4).up e7).append (.cons ht .nil)
            · rw [List.length_append, hl2]; rfl
            · intro y hy
              rcases List.mem_append.mp hy with hy | hy
              · exact hst y hy
              · rw [List.mem_singleton] at hy
                subst hy
                show (0 ≤ r3 ∧ r3 < 6) ∧ 1 ≤ 1 + r4 ∧ 1 + r4 ≤ 99
                omega
          · rintro acc2 B2 L2 D2 H8 ⟨st, m, cs, kk, rfl, e3, hS4, hacc2, hl2, hst⟩ S4
            rw [List.length_range] at hl2
            obtain ⟨B9, e9, S9, hst9⟩ := S4.toData hacc2
            have SO : StOk st := ⟨by omega, hst⟩
            repeat tb_start
            refine v_tupD S9 hst9 fun vs B10 H10 e10 S10 hvs => ?_
            have hvn10 := ((hvn.up e3).up e9).up e10
            have e11 := e6.trans (e3.trans (e9.trans e10))
            clear hvn S9 hst9 S4 hacc2 e9 e10 e3 S7 S6 e6
            repeat tb_start
            refine cutS (PSt K ⟨B, H, [p, q]⟩ B1 p q D acc rs z mx fun _ => True) ?_ ?_
            · repeat tb_start
              refine nextQ [(D, .lst acc)] [] S10 hS4 (by decide) (by decide) fun r2 m2 cs2 kk2 H11 q2 q3 hS11 S11 => ?_
              repeat tb_start
              refine ifd (fun hh => ?_) (fun hh => ?_)
              · repeat tb_start
                refine new_lst S11 (by decide) fun D4 H12 S12 => ?_
                repeat tb_start
                refine new_tupD (K := K) S12 .nil (by simp) fun t B13 H13 e13 S13 ht => ?_
                obtain ⟨B14, e14, S14, hD4⟩ := S13.toData (K := K) (ds := []) .nil
                repeat tb_start
                exact ⟨_, [], _, [], _, _, _, _, _, _, _, rfl, S14, e11.trans (e13.trans e14), hS11, hD4, NsOk.nil rs, ht.up e14, ⟨by decide, fun _ h => nomatch h⟩, (fun _ => rfl), trivial⟩
              · repeat tb_start
                refine ifd (fun hh2 => ?_) (fun hh2 => ?_)
                · repeat tb_start
                  refine new_lst S11 (by decide) fun D4 H12 S12 => ?_
                  repeat tb_start
                  refine new_tupD (K := K) S12 .nil (by simp) fun t B13 H13 e13 S13 ht => ?_
                  obtain ⟨B14, e14, S14, hD4⟩ := S13.toData (K := K) (ds := []) .nil
                  repeat tb_start
                  exact ⟨_, [], _, [], _, _, _, _, _, _, _, rfl, S14, e11.trans (e13.trans e14), hS11, hD4, NsOk.nil rs, ht.up e14, ⟨by decide, fun _ h => nomatch h⟩, (fun _ => rfl), trivial⟩
                · repeat tb_start
                  exact ⟨_, ns, _, st, _, _, _, _, _, _, _, rfl, S11, e11, hS11, hvn10, NO, hvs, SO, (fun h => absurd h hh2), trivial⟩
            · clear hvn10 hvs SO NO S10 hS4 e11 hst
              rintro σ7 H11 ⟨vn, ns, vs, st, x5, x7, x8, m, cs, kk, B11, rfl, S11, e11, hS11, hvn, NO, hvs, SO, hst0, _⟩
              have glen := M.good.len
              repeat tb_start
              refine cutS (PSt K ⟨B, H, [p, q]⟩ B1 p q D acc rs z mx fun ns => ((lawLed rs 12 ns).map (·.2)).sum ≤ 200) ?_ ?_
              · repeat tb_start
                have hacc11 := hacc.up e11
                refine ⟨B11, D, acc, vn, _, rs, ns, rfl, S11.ex, S11.sqMem (.head _), hacc11, hvn, .inl rfl, M.good, fun x hx => by rw [List.take_of_length_le (by omega)]; exact NO.known x hx, NO.many, by have := NO.len; omega, fun D2 H12 T12 => ?_⟩
                have S12 := S11.callN T12
                refine sumQ (S12.rdMem (.head _)) (kvI_vals _) ?_
                have S13 := S12.drop
                repeat tb_start
                refine ifd (fun hh => ?_) (fun hh => ?_)
                · repeat tb_start
                  refine new_lst S13 (by decide) fun D4 H14 S14 => ?_
                  obtain ⟨B15, e15, S15, hD4⟩ := S14.toData (K := K) (ds := []) .nil
                  repeat tb_start
                  exact ⟨_, [], _, st, _, _, _, _, _, _, _, rfl, S15, e11.trans e15, hS11, hD4, NsOk.nil rs, hvs.up e15, SO, hst0, (by show (0 : Int) ≤ 200; decide)⟩
                · repeat tb_start
                  exact ⟨_, ns, _, st, _, _, _, _, _, _, _, rfl, S13, e11, hS11, hvn, NO, hvs, SO, hst0, Int.le_trans (Int.not_lt.mp hh) (by decide)⟩
              · clear hvn NO hvs SO S11 hS11 e11 hst0
                rintro σ8 H12 ⟨vn, ns, vs, st, x5, x7, x8, m, cs, kk, B12, rfl, S12, e12, hS12, hvn, NO, hvs, SO, hst0, hsum⟩
                repeat tb_start
                have hc : atI signs12.cps.toList z = some (signs12.cps.toList.getD rs.length 0) := by
                  rw [← hzz]
                  refine atI_nat ?_
                  rw [List.getD_eq_getElem?_getD, List.getElem?_eq_getElem (show rs.length < signs12.cps.toList.length from hi12)]
                  rfl
                refine v_ixS (z := signs12) (by decide +kernel) hc ?_
                refine v_addS (by rw [sizeLine_eq]; show 1 + 1 ≤ _; omega) ?_
                repeat tb_start
                refine v_tupD S12 hvn fun vt B13 H13 e13 S13 hvt => ?_
                repeat tb_start
                refine nextQ [(D, .lst acc)] [] S13 hS12 (by decide) (by decide) fun r1 m1 cs1 kk1 H14 q0 q1 hS14 S14 => ?_
                repeat tb_start
                refine nextQ [(D, .lst acc)] [] S14 hS14 (by decide) (by decide) fun r2 m2 cs2 kk2 H15 q2 q3 hS15 S15 => ?_
                repeat tb_start
                refine new_tupD (K := K) S15 (.cons (.str (nameAt rs.length)) (.cons hvt (.cons (hvs.up e13) (.cons (.int (1 + r1)) (.cons (.int r2) .nil))))) (by simp) fun t B16 H16 e16 S16 ht => ?_
                have hla := hacc.length
                rw [List.length_map] at hla
                refine v_appendN 0 S16 rfl (by rw [sizeLine_eq]; omega) fun H17 S17 => ?_
                repeat tb_start
                refine NxE.mk' S17 (e1.trans (e2.trans (e12.trans (e13.trans e16)))) ?_
                refine ⟨_, _, _, _, _, _, rs ++ [⟨nameAt rs.length, ns, st, 1 + r1, r2⟩], _, _, _, _, rfl, M.snoc hi12 rfl (by show 1 ≤ 1 + r1 ∧ 1 + r1 ≤ 99; omega) (by show 0 ≤ r2 ∧ r2 ≤ 30; omega) NO.nd NO.known NO.many SO.1 SO.2 (n := 12) (by omega) hsum, ?_, by rw [List.length_append, hlen]; rfl, ?_, hS15, rfl⟩
                · intro r hr
                  cases hrs : rs with
                  | nil =>
                    rw [hrs] at hr hzz
                    obtain rfl : _ = r := Option.some.inj hr
                    exact hst0 (by rw [← hzz]; rfl)
                  | cons a t =>
                    rw [hrs] at hr hFst
                    exact hFst r hr
                rw [List.map_append]
                exact (((hacc.up e12).up e13).up e16).append (.cons ht .nil)
    · rintro σ B1 L1 H3 ⟨_, _, _, _, _, _, rs, acc, m, cs, kk, rfl, M, hFst, hlen, hacc, hS3, rfl⟩ e1 S3
      rw [List.length_range] at hlen
      repeat tb_start
      obtain ⟨B4, e4, S4, hD⟩ := S3.toData hacc
      exact k _ rs _ _ _ _ _ (e1.trans e4) M hFst (by intro z; rw [z] at hlen; simp at hlen; omega) (by omega) hD hS3 S4
end
end LW

namespace LW
open PySem PySem.Spec PyProof.Rows L2 WK PM
abbrev s_need_many : Stmt := topS 20
theorem sc_need_many : FnScope ["number", "low", "high"] ["number", "low", "high"] (defScope s_need_many) := ⟨rfl, rfl, rfl, by decide +kernel, rfl, by decide +kernel, by decide +kernel⟩
abbrev s_Parts_needs_of : Stmt := inClass (topS 19) 3
abbrev s_Parts_steps_of : Stmt := inClass (topS 19) 4
theorem sc_Parts_steps_of : FnScope ["self", "name"] ["self", "name"] (defScope s_Parts_steps_of) := ⟨rfl, rfl, rfl, by decide +kernel, rfl, by decide +kernel, by decide +kernel⟩
abbrev s_Parts_is_bought : Stmt := inClass (topS 19) 5
abbrev s_Parts_need_part : Stmt := inClass (topS 19) 6
theorem sc_Parts_need_part : FnScope ["self", "name"] ["self", "name"] (defScope s_Parts_need_part) := ⟨rfl, rfl, rfl, by decide +kernel, rfl, by decide +kernel, by decide +kernel⟩
def spNeedMany : Sp := fun vs H Q _ => ∃ (n lo hi : Int), vs = [.int n, .int lo, .int hi] ∧ lo ≤ n ∧ n ≤ hi ∧ Q .non H
/-- a book that stands -/
def spNeedsOf (K : PySem.W.Frag) (CP : Addr) : Sp := fun vs H Q _ => ∃ (B : Hp) (p : Addr) (rs : List PRow) (r : PRow) (z : Str), vs = [.ref p, .str z] ∧ Ex B H ∧ BookAt K CP B p rs ∧ PM.rowOf rs z = some r ∧ ∀ v, Dp K B v (.tuple (r.needs.map encNeed)) → Q v H
def spStepsOf (K : PySem.W.Frag) (CP : Addr) : Sp := fun vs H Q _ => ∃ (B : Hp) (p : Addr) (rs : List PRow) (r : PRow) (z : Str), vs = [.ref p, .str z] ∧ Ex B H ∧ BookAt K CP B p rs ∧ PM.rowOf rs z = some r ∧ ∀ v, Dp K B v (.tuple (r.steps.map encStep)) → Q v H
def spIsBought (K : PySem.W.Frag) (CP : Addr) : Sp := fun vs H Q _ => ∃ (B : Hp) (p : Addr) (rs : List PRow) (r : PRow) (z : Str), vs = [.ref p, .str z] ∧ Ex B H ∧ BookAt K CP B p rs ∧ PM.rowOf rs z = some r ∧ ∀ B' H', Ok ⟨B, H, []⟩ B' [] H' → Q (.bl (r.needs.isEmpty && r.steps.isEmpty)) H'
def spNeedPart (K : PySem.W.Frag) (CP : Addr) : Sp := fun vs H Q _ => ∃ (B : Hp) (p : Addr) (rs : List PRow) (r : PRow) (z : Str), vs = [.ref p, .str z] ∧ Ex B H ∧ BookAt K CP B p rs ∧ PM.rowOf rs z = some r ∧ Q .non H
theorem rowKV_get {K : PySem.W.Frag} {B : Hp} {kvs : List (Key × V)} {rs : List PRow} {z : Str} {r : PRow} (h : RowKV K B kvs rs) (e : PM.rowOf rs z = some r) : ∃ v, valV kvs (.inr z) = some v ∧ Dp K B v (encRest r) := by
  induction h with
  | nil => simp [PM.rowOf] at e
  | @cons v q kvs rs hv h ih =>
    unfold PM.rowOf at e ih
    by_cases hz : q.name = z
    · rw [List.find?_cons_of_pos (by simpa using hz)] at e
      cases e
      exact ⟨v, by unfold valV; rw [List.find?_cons_of_pos (by simp [hz])]; rfl, hv⟩
    · rw [List.find?_cons_of_neg (by simpa using hz)] at e
      obtain ⟨u, h1, h2⟩ := ih e
      exact ⟨u, by unfold valV at h1 ⊢; rw [List.find?_cons_of_neg (by simp [hz])]; exact h1, h2⟩
section
variable {P : Program} {w : World} {K : PySem.W.Frag} {mg : Str → Option Value} {base : Heap}
theorem ok_need_many {f : Addr} {fd : FuncData} (F : Fun K "need_many" "need_many" s_need_many f fd) : FnOk P w K mg base CX0 1 f fd ["number", "low", "high"] spNeedMany := by
  refine F.ok sc_need_many (fun vs H Q E h => ?_) (fun cdv A outer s H vs Q E hr h => ?_)
  · obtain ⟨n, lo, hi, rfl, _⟩ := h
    rfl
  · obtain ⟨n, lo, hi, rfl, h1, h2, k⟩ := h
    refine with_al (P := P) (w := w) (K := K) hr (fun al => ?_)
    refine ⟨_, (pss_one (ps_if (pt_not (pt_chain (opU al) (opU al) (pv 1) (pv 0) (pv 2))) (pss_one ps_never) pss_nil)), ?_⟩
    repeat tb_start
    exact k
theorem ok_steps_of {f CP : Addr} {fd : FuncData} (F : Fun K "steps_of" "Parts.steps_of" s_Parts_steps_of f fd) (clP : Cls K CP) (nRows : NoAttr K CP "rows") : FnOk P w K mg base CX0 1 f fd ["self", "name"] (spStepsOf K CP) := by
  refine F.ok sc_Parts_steps_of (fun vs H Q E h => ?_) (fun cdv A outer s H vs Q E hr h => ?_)
  · obtain ⟨B, p, rs, r, z, rfl, _⟩ := h
    rfl
  · obtain ⟨B, p, rs, r, z, rfl, ex, ⟨dx, a, l, rkv, lkv, h1, h2, h3, RK, LK⟩, e, k⟩ := h
    have S := Ok.start0 ex
    obtain ⟨v, hv1, hv2⟩ := rowKV_get RK e
    refine with_al (P := P) (w := w) (K := K) hr (fun al => ?_)
    refine ⟨_, (pss_one (ps_ret (pe_ix (ixU al) (pe_ix (ixU al) (pe_fldU K (pv 0) rfl) (pv 1) (fun _ _ => rfl)) pe_int (fun _ _ => rfl)))), ?_⟩
    repeat tb_start
    refine v_ixDS (kvs := rkv) (by kts_caught) hv1 ?_
    repeat tb_start
    exact v_ixDT (j := 1) S hv2 rfl rfl fun u hu => k u hu
theorem ok_need_part {f CP : Addr} {fd : FuncData} (F : Fun K "need_part" "Parts.need_part" s_Parts_need_part f fd) (clP : Cls K CP) (nRows : NoAttr K CP "rows") : FnOk P w K mg base CX0 1 f fd ["self", "name"] (spNeedPart K CP) := by
  refine F.ok sc_Parts_need_part (fun vs H Q E h => ?_) (fun cdv A outer s H vs Q E hr h => ?_)
  · obtain ⟨B, p, rs, r, z, rfl, _⟩ := h
    rfl
  · obtain ⟨B, p, rs, r, z, rfl, ex, ⟨dx, a, l, rkv, lkv, h1, h2, h3, RK, LK⟩, e, k⟩ := h
    have S := Ok.start0 ex
    obtain ⟨v, hv1, hv2⟩ := rowKV_get RK e
    refine with_al (P := P) (w := w) (K := K) hr (fun al => ?_)
    refine ⟨_, (pss_one (ps_if (pt_cmpR (opU al) (pv 1) (pe_fldU K (pv 0) rfl) rfl) (pss_one ps_never) pss_nil)), ?_⟩
    repeat tb_start
    have yes : (valV rkv (.inr z)).isSome = true := by rw [hv1]; rfl
    rw [yes]
    repeat tb_start
    exact k
end
end LW

namespace LW
open PySem PySem.Spec PyProof.Rows L2 WK PM
local macro_rules | `(tactic| kpr_short) => `(tactic| simp only [List.flatten_cons, List.flatten_nil, List.map_cons, List.map_nil, List.getD_cons_zero, List.getD_cons_succ, List.append_nil, List.append_assoc, List.cons_append, List.nil_append])
abbrev s_Queue___init__ : Stmt := inClass (topS 23) 0
theorem sc_Queue___init__ : FnScope ["self", "machine"] ["self"] (defScope s_Queue___init__) := ⟨rfl, rfl, rfl, by decide +kernel, rfl, by decide +kernel, by decide +kernel⟩
abbrev s_Queue_next_one : Stmt := inClass (topS 23) 1
theorem sc_Queue_next_one : FnScope ["self", "found", "machine", "some", "moment", "order", "piece"] ["self"] (defScope s_Queue_next_one) := ⟨rfl, rfl, rfl, by decide +kernel, rfl, by decide +kernel, by decide +kernel⟩
structure CkQ (K : PySem.W.Frag) (CQ : Addr) : Prop where
  c : Cls K CQ
  w : NoAttr K CQ "waiting"
  f : NoAttr K CQ "free"
def spQInit (K : PySem.W.Frag) (CQ : Addr) : Sp := fun vs H Q _ => ∃ (B : Hp) (q dx : Addr), vs = [.ref q] ∧ Ok ⟨B, H, [q]⟩ B [(q, .ins CQ dx [])] H ∧
  ∀ A B' H', Ex B B' → Ok ⟨B, H, [q]⟩ B' (QL CQ A) H' → QB K B' A → A.ws.map (·.w) = List.replicate 6 [] → A.free = List.replicate 6 0 → A.q = q → Q .non H'
def spNextOne (K : PySem.W.Frag) (CQ : Addr) : Sp := fun vs H Q _ => ∃ (B : Hp) (A : AQ), vs = [.ref A.q] ∧ Ok ⟨B, H, (QL CQ A).map (·.1)⟩ B (QL CQ A) H ∧ QB K B A ∧ A.ws.length = 6 ∧ A.free.length = 6 ∧
  ∀ v B' H', Ex B B' → Ok ⟨B, H, (QL CQ A).map (·.1)⟩ B' (QL CQ A) H' → optQ K B' v ((minO ltCd ((A.ws.map (·.w)).zipIdx.filterMap fun x => candOf A.free x.2 x.1)).map encCd) → Q v H'
section
variable {P : Program} {w : World} {K : PySem.W.Frag} {mg : Str → Option Value} {base : Heap}
theorem ok_queue_init {f CQ : Addr} {fd : FuncData} (F : Fun K "__init__" "Queue.__init__" s_Queue___init__ f fd) (ck : CkQ K CQ) (n_range : mg "range" = none) (c_MACHINES : GlI mg "MACHINES" 6) : FnOk P w K mg base CX0 1 f fd ["self"] (spQInit K CQ) := by
  obtain ⟨cQ, nW, nF⟩ := ck
  refine F.ok sc_Queue___init__ (fun vs H Q E h => ?_) (fun cdv Ar outer s H vs Q E hr h => ?_)
  · obtain ⟨B, q, dx, rfl, _⟩ := h
    rfl
  · obtain ⟨B, q, dx, rfl, S, kk⟩ := h
    refine with_al (P := P) (w := w) (K := K) hr (fun al => ?_)
    refine ⟨_, (pss_cons (ps_fldK K (pv 0) (pe_lc (own := [("machine", 1)]) al.calm sc_Queue___init__.nd (pi_range1 (by rfl) n_range (pa_cons (pe_gi c_MACHINES rfl) pa_nil)) (blkOk_by (own := [("machine", 1)]) (N := ["self", "machine"]) (sc := (defScope s_Queue___init__)) (by decide +kernel)) (fun _ _ _ _ _ => (pg_name (i := 1) sc_Queue___init__.nd rfl (by first | exact Or.inl rfl | exact Or.inr rfl))) (fun _ _ _ _ _ => pts_nil) (fun _ _ _ _ _ => (pe_lst pa_nil))) rfl) (pss_one (ps_fldK K (pv 0) (pe_op (opU al) (pe_lst (pa_cons pe_int pa_nil)) (pe_gi c_MACHINES rfl)) rfl))), ?_⟩
    repeat tb_start
    refine rngQ (by decide) (by decide) ?_
    refine lcD src_rng S (fun i acc B1 L1 => ∃ as : List Addr, as.length = i ∧ acc = as.map V.ref ∧ Ex B B1 ∧ L1 = as.map (fun a => (a, HO.lst [])) ++ [(q, .ins CQ dx [])]) ?_ (fun _ _ _ _ _ _ _ => True.intro) ?_ ?_
    · exact ⟨[], rfl, rfl, Ex.refl _, rfl⟩
    · rintro i j xv acc B1 B2 L1 D H2 hget ⟨as, hl, rfl, e1, rfl⟩ e2 S2 rfl
      obtain ⟨rfl, hj⟩ := rng_at hget
      rw [show (6 : Int).toNat = 6 from rfl] at hj
      repeat tb_start
      refine ⟨rfl, ?_⟩
      repeat tb_start
      refine new_lst S2 (by decide) fun a H3 S3 => ?_
      refine Acc.mk (L := (as ++ [a]).map (fun a => (a, HO.lst [])) ++ [(q, .ins CQ dx [])]) (S3.perm ?_) (by rw [List.length_map (f := V.ref), hl, sizeLine_eq]; omega) ⟨as ++ [a], by rw [List.length_append, hl]; rfl, by rw [List.map_append]; rfl, e1.trans e2, rfl⟩
      rw [List.map_append]
      exact permI [[(a, HO.lst [])], [(D, HO.lst (as.map V.ref))], as.map (fun a => (a, HO.lst [])), [(q, .ins CQ dx [])]] [1, 2, 0, 3]
    · rintro acc B1 L1 D H1 ⟨as, hl, rfl, e1, rfl⟩ S1
      repeat tb_start
      have S2 : Ok ⟨B, H, [q]⟩ B1 ((q, .ins CQ dx []) :: (D, .lst (as.map V.ref)) :: as.map (fun a => (a, HO.lst []))) H1 := S1.permI [[(D, HO.lst (as.map V.ref))], as.map (fun a => (a, HO.lst [])), [(q, .ins CQ dx [])]] [2, 0, 1]
      refine sfdQ 0 S2 rfl cQ nW (by decide) rfl fun H3 S3 => ?_
      repeat tb_start
      refine new_lst S3 (by decide) fun z H4 S4 => ?_
      repeat tb_start
      refine v_rep S4 (S4.own _ (.head _)).1 (by decide) (by decide) (by decide) fun r H5 S5 => ?_
      repeat tb_start
      refine sfdQ 2 S5 rfl cQ nF (by show 1 < 1000; decide) rfl fun H6 S6 => ?_
      have hl6 : as.length = 6 := by rw [hl]; rfl
      refine kk ⟨q, dx, D, r, as.map fun a => ⟨a, [], []⟩, List.replicate 6 0⟩ B1 H6 e1 ?_ ?_ ?_ rfl rfl
      · have S7 : Ok ⟨B, H, [q]⟩ B1 ((z, .lst [.int 0]) :: (q, .ins CQ dx [("waiting", .ref D), ("free", .ref r)]) :: (D, .lst (as.map V.ref)) :: (r, .lst ((List.replicate 6 (0 : Int)).map V.int)) :: as.map (fun a => (a, HO.lst []))) H6 := by
          refine S6.perm ?_
          show ((r, HO.lst ((List.replicate 6 (0 : Int)).map V.int)) :: (z, .lst [.int 0]) :: (q, .ins CQ dx [("waiting", .ref D), ("free", .ref r)]) :: (D, .lst (as.map V.ref)) :: as.map (fun a => (a, HO.lst []))).Perm _
          exact permI [[(r, HO.lst ((List.replicate 6 (0 : Int)).map V.int))], [(z, .lst [.int 0])], [(q, .ins CQ dx [("waiting", .ref D), ("free", .ref r)])], [(D, .lst (as.map V.ref))], as.map (fun a => (a, HO.lst []))] [1, 2, 3, 0, 4]
        have S8 := S7.drop
        show Ok _ B1 ((q, .ins CQ dx [("waiting", .ref D), ("free", .ref r)]) :: (D, .lst ((as.map fun a => (⟨a, [], []⟩ : WQ)).map fun x => V.ref x.a)) :: (r, .lst ((List.replicate 6 (0 : Int)).map V.int)) :: (as.map fun a => (⟨a, [], []⟩ : WQ)).map wqC) H6
        rw [List.map_map, List.map_map]
        exact S8
      · intro x hx
        obtain ⟨a, _, rfl⟩ := List.mem_map.mp hx
        exact .nil
      · show (as.map fun a => (⟨a, [], []⟩ : WQ)).map (·.w) = _
        rw [List.map_map, List.eq_replicate_iff]
        refine ⟨by rw [List.length_map]; exact hl6, fun y hy => ?_⟩
        obtain ⟨a, _, rfl⟩ := List.mem_map.mp hy
        rfl
theorem ok_next_one {f CQ : Addr} {fd : FuncData} (F : Fun K "next_one" "Queue.next_one" s_Queue_next_one f fd) (ck : CkQ K CQ) (n_enumerate : mg "enumerate" = none) (n_min : mg "min" = none) (n_max : mg "max" = none) : FnOk P w K mg base CX0 1 f fd ["self"] (spNextOne K CQ) := by
  obtain ⟨cQ, nW, nF⟩ := ck
  refine F.ok sc_Queue_next_one (fun vs H Q E h => ?_) (fun cdv Ar outer s H vs Q E hr h => ?_)
  · obtain ⟨B, A, rfl, _⟩ := h
    rfl
  · obtain ⟨B, A, rfl, S, qb, h6, h6f, kk⟩ := h
    refine with_al (P := P) (w := w) (K := K) hr (fun al => ?_)
    refine ⟨_, (pss_cons (ps_asg (pe_lst pa_nil) (pg_name (i := 1) sc_Queue_next_one.nd rfl (by first | exact Or.inl rfl | exact Or.inr rfl))) (pss_cons (ps_for PassesOwn.never rfl (pi_enumV (by rfl) n_enumerate (pa_cons (pe_fldU K (pv 0) rfl) pa_nil)) (pg_tupU (n := 2) K (pgs_cons (pg_name (i := 2) sc_Queue_next_one.nd rfl (by first | exact Or.inl rfl | exact Or.inr rfl)) (pgs_cons (pg_name (i := 3) sc_Queue_next_one.nd rfl (by first | exact Or.inl rfl | exact Or.inr rfl)) pgs_nil))) (pss_one (ps_if (pt_cmpR (opU al) (pv 3) (pe_lst pa_nil) (nomark _)) (pss_cons (ps_asg (pe_callB (callU al) (by rfl) n_min b_min (pa_cons (pv 3) pa_nil)) (pg_tupU (n := 3) K (pgs_cons (pg_name (i := 4) sc_Queue_next_one.nd rfl (by first | exact Or.inl rfl | exact Or.inr rfl)) (pgs_cons (pg_name (i := 5) sc_Queue_next_one.nd rfl (by first | exact Or.inl rfl | exact Or.inr rfl)) (pgs_cons (pg_name (i := 6) sc_Queue_next_one.nd rfl (by first | exact Or.inl rfl | exact Or.inr rfl)) pgs_nil))))) (pss_one (ps_expr (pe_bmU K PySem.F.plainAttrs_list PySem.F.slot_list_append PySem.F.type_list_append (metU al) (pv 1) (pa_cons (pe_tup (pa_cons (pe_callB (callU al) (by rfl) n_max b_max (pa_cons (pv 4) (pa_cons (pe_ix (ixU al) (pe_fldU K (pv 0) rfl) (pv 2) (fun _ _ => rfl)) pa_nil))) (pa_cons (pv 2) (pa_cons (pv 5) (pa_cons (pv 6) pa_nil))))) pa_nil))))) pss_nil))) (pss_one (ps_ret (pe_ifExp (pt_cmpR (opU al) (pv 1) (pe_lst pa_nil) (nomark _)) (pe_callB (callU al) (by rfl) n_min b_min (pa_cons (pv 1) pa_nil)) pe_non))))), ?_⟩
    repeat tb_start
    refine new_lst S (by decide) fun D H1 S1 => ?_
    repeat tb_start
    refine ⟨A.wa, _, rfl, .inl ⟨SqL.of (S1.own _ (.tail _ (.tail _ (.head _)))).1, ?_⟩⟩
    refine forDS (src_enumO (fun x : WQ => V.ref x.a) A.ws) S1 (fun i σ B1 L1 => ∃ cs : List V, (∃ yy2 yy3 yy4 yy5 yy6, σ = [some (.ref A.q), some (.ref D), yy2, yy3, yy4, yy5, yy6]) ∧ L1 = (D, .lst cs) :: QL CQ A ∧ DpAll K B1 cs ((((A.ws.map (·.w)).zipIdx.take i).filterMap fun x => candOf A.free x.2 x.1).map encCd)) (fun i σ B1 L1 _ ⟨cs, _, h, _⟩ => by rw [h]; exact .tail _ (.tail _ (.head _))) ?_ ?_ ?_
    · exact ⟨[], ⟨_, _, _, _, _, rfl⟩, rfl, .nil⟩
    · rintro i ⟨x, n⟩ xv σ B2 B3 L1 H3 hget ⟨cs, ⟨_, _, _, _, _, rfl⟩, rfl, hcs⟩ e2 e3 S3 ⟨T, rfl, hT⟩
      obtain ⟨hget', hni⟩ := zipIdx_at hget
      dsimp only at hget' hni hT
      subst hni
      have hi := (List.getElem?_eq_some_iff.mp hget').1
      have hx : (x.a, HO.lst x.vs) ∈ QL CQ A := mQx hget'
      have hxw : (A.ws.map (·.w)).zipIdx[n]? = some (x.w, n) := by
        rw [List.getElem?_zipIdx, List.getElem?_map, hget']
        simp
      have htake : (((A.ws.map (·.w)).zipIdx.take (n + 1)).filterMap fun x => candOf A.free x.2 x.1) = (((A.ws.map (·.w)).zipIdx.take n).filterMap fun x => candOf A.free x.2 x.1) ++ (candOf A.free n x.w).toList := by
        rw [List.take_add_one, hxw, List.filterMap_append]
        congr 1
      have hd := (qb x (List.mem_of_getElem? hget')).up (e2.trans e3)
      have hvl : x.vs.length = x.w.length := by rw [hd.length, List.length_map]
      have hcl : cs.length ≤ 6 := by
        rw [hcs.length, List.length_map]
        refine Nat.le_trans (List.length_filterMap_le ..) ?_
        rw [List.length_take]
        omega
      refine r_gtupB S3 hT rfl ?_
      show gCons _ _ [_, .ref x.a] _ _ _
      repeat tb_start
      refine new_lst S3 (by decide) fun e4 H4 S4 => ?_
      refine v_neNilL (SqL.of (S4.own _ (.tail _ (.tail _ hx))).1) (SqL.of (S4.own _ (.head _)).1) ?_
      have S5 := S4.drop
      clear S4
      rw [hvl]
      cases hw : minO ltWt x.w with
      | none =>
        have hw0 : x.w = [] := by
          cases h : x.w with
          | nil => rfl
          | cons a b => rw [h] at hw; cases hw
        have hlw : x.w.length = 0 := by rw [hw0]; rfl
        repeat tb_start
        refine NxE.mk' S5 (e2.trans e3) ⟨cs, ⟨_, _, _, _, _, rfl⟩, rfl, ?_⟩
        rw [htake]
        have hc : candOf A.free n x.w = none := by unfold candOf; rw [hw]; rfl
        rw [hc, Option.toList_none, List.append_nil]
        exact hcs.up e3
      | some m =>
        have hlw : ¬ x.w.length = 0 := fun z => by
          rw [List.length_eq_zero_iff.mp z] at hw
          cases hw
        repeat tb_start
        refine v_minA lt_encWt alike_Wt depth_Wt S5 (S5.own _ (.tail _ hx)).1 hd hw fun mv hmv => ?_
        refine r_gtupD S5 hmv rfl fun vs hvs => ?_
        obtain ⟨v1, _, rfl, h1, hvs⟩ := hvs.cons_inv
        obtain ⟨v2, _, rfl, h2, hvs⟩ := hvs.cons_inv
        obtain ⟨v3, _, rfl, h3, hvs⟩ := hvs.cons_inv
        obtain rfl := hvs.nil_inv
        obtain rfl := h1.int_inv
        obtain rfl := h2.int_inv
        obtain rfl := h3.int_inv
        have hfr : (A.free.map V.int)[n]? = some (.int (A.free.getD n 0)) := by
          have hn : n < A.free.length := by omega
          rw [List.getElem?_map, List.getElem?_eq_getElem hn, List.getD_eq_getElem?_getD, List.getElem?_eq_getElem hn]
          rfl
        have hmx : (if A.free.getD n 0 > m.1 then A.free.getD n 0 else m.1) = max m.1 (A.free.getD n 0) := by
          split <;> omega
        have hc : candOf A.free n x.w = some (max m.1 (A.free.getD n 0), n, m.2.1, m.2.2) := by unfold candOf; rw [hw]; rfl
        repeat tb_start
        refine v_ixL (xs := A.free.map V.int) (SqL.of (S5.own _ (.tail _ (.tail _ (.tail _ (.head _))))).1) (atI_nat hfr) ?_
        repeat tb_start
        rw [hmx]
        refine new_tupD (K := K) S5 (.cons (.int _) (.cons (.int _) (.cons (.int _) (.cons (.int _) .nil)))) (by show 4 ≤ 1000; decide) fun t6 B6 H6 e6 S6 ht6 => ?_
        refine v_append S6 (by rw [sizeLine_eq]; omega) fun H7 S7 => ?_
        repeat tb_start
        refine NxE.mk' S7 (e2.trans (e3.trans e6)) ⟨cs ++ [.ref t6], ⟨_, _, _, _, _, rfl⟩, rfl, ?_⟩
        rw [htake, hc, List.map_append]
        exact (hcs.up (e3.trans e6)).snoc ht6
    · rintro σ B2 L1 H2 ⟨cs, ⟨_, _, _, _, _, rfl⟩, rfl, hcs⟩ e2 S2
      rw [List.length_zipIdx, ← List.length_map (f := (·.w)), ← List.length_zipIdx (i := 0), List.take_length] at hcs
      repeat tb_start
      refine new_lst S2 (by decide) fun z H3 S3 => ?_
      refine v_neNilL (SqL.of (S3.own _ (.tail _ (.head _))).1) (SqL.of (S3.own _ (.head _)).1) ?_
      have S4 := S3.drop
      have hcl : cs.length = ((A.ws.map (·.w)).zipIdx.filterMap fun x => candOf A.free x.2 x.1).length := by rw [hcs.length, List.length_map]
      rw [hcl]
      cases hm : minO ltCd ((A.ws.map (·.w)).zipIdx.filterMap fun x => candOf A.free x.2 x.1) with
      | none =>
        have h0 : ((A.ws.map (·.w)).zipIdx.filterMap fun x => candOf A.free x.2 x.1).length = 0 := by
          cases h : (A.ws.map (·.w)).zipIdx.filterMap fun x => candOf A.free x.2 x.1 with
          | nil => rfl
          | cons a b => rw [h] at hm; cases hm
        rw [hm] at kk
        repeat tb_start
        exact kk .non B2 H3 e2 S4.drop rfl
      | some c =>
        have h0 : ¬ ((A.ws.map (·.w)).zipIdx.filterMap fun x => candOf A.free x.2 x.1).length = 0 := fun z => by
          rw [List.length_eq_zero_iff.mp z] at hm
          cases hm
        rw [hm] at kk
        repeat tb_start
        refine v_minA lt_encCd alike_Cd depth_Cd S4 (S4.own _ (.head _)).1 hcs hm fun mv hmv => ?_
        refine kk mv B2 H3 e2 S4.drop ⟨hmv, fun z => ?_⟩
        rw [z] at hmv
        cases hmv
end
end LW

namespace LW
open PySem PySem.Spec PyProof.Rows L2 WK PM
local macro_rules | `(tactic| kpr_short) => `(tactic| simp only [List.flatten_cons, List.flatten_nil, List.map_cons, List.map_nil, List.getD_cons_zero, List.getD_cons_succ, List.append_nil, List.append_assoc, List.cons_append, List.nil_append])
abbrev s_need_orders : Stmt := topS 24
theorem sc_need_orders : FnScope ["book", "orders", "before", "name", "many", "minute"] ["book", "orders"] (defScope s_need_orders) := ⟨rfl, rfl, rfl, by decide +kernel, rfl, by decide +kernel, by decide +kernel⟩
abbrev s_worked : Stmt := topS 25
theorem sc_worked : FnScope ["parts", "orders", "book", "queue", "order", "name", "many", "minute", "first", "piece", "at", "found", "told", "begin", "machine", "steps", "step", "end"] ["parts", "orders"] (defScope s_worked) := ⟨rfl, rfl, rfl, by decide +kernel, rfl, by decide +kernel, by decide +kernel⟩
def spNeedOrders (K : PySem.W.Frag) (CP : Addr) : Sp := fun vs H Q _ => ∃ (B : Hp) (p : Addr) (u : V) (rs : List PRow) (os : List Or), vs = [.ref p, u] ∧ Ex B H ∧ BookAt K CP B p rs ∧ Dp K B u (.list (os.map encOr)) ∧ OrsOk rs os ∧ ∀ B' H', Ex B B' → Ok ⟨B, H, []⟩ B' [] H' → Q .non H'
def spWorked (K : PySem.W.Frag) : Sp := fun vs H Q _ => ∃ (B : Hp) (v u : V) (rs : List PRow) (os : List Or), vs = [v, u] ∧ Ex B H ∧ Dpl K B v (rs.map encRow) ∧ Dp K B u (.list (os.map encOr)) ∧ GoodBook rs ∧ OrsOk rs os ∧
  ∀ (D : Addr) (xs : List V) (rows : List Wr) B' H', Ex B B' → Ok ⟨B, H, []⟩ B' [(D, .lst xs)] H' → DpAll K B' xs (rows.map encWr) → Runs (stOf rs os) (startQ (stOf rs os) os) rows → Q (.ref D) H'
def WorkW (K : PySem.W.Frag) (F0 : Ent) (B7 : Hp) (CQ : Addr) (v u : V) (x d D : Addr) (rs : List PRow) (os : List Or) (rows : List Wr) : Nat → L2.St → Hp → Prop := fun m σ H => ∃ (A : AQ) (q : Mq) (xs : List V) (B1 : Hp), (∃ yy4 yy5 yy6 yy7 yy8 yy9 yy12 yy13 yy14 yy15 yy16 yy17, σ = [some (v), some (u), some (.ref x), some (.ref A.q), yy4, yy5, yy6, yy7, yy8, yy9, some (.ref d), some (.ref D), yy12, yy13, yy14, yy15, yy16, yy17]) ∧ Ok F0 B1 (QL CQ A ++ [(d, .dT (kvP q.at_)), (D, .lst xs)]) H ∧ Ex B7 B1 ∧ QB K B1 A ∧ A.ws.map (·.w) = q.wait ∧ A.free = q.free ∧ DpAll K B1 xs (q.found.map encWr) ∧ MqOk (stOf rs os) os.length q ∧ Runs (stOf rs os) q rows ∧ q.left (stOf rs os) = m ∧ q.found.length + q.left (stOf rs os) ≤ 5000000 ∧ q.at_.length ≤ q.found.length ∧ q.wait.flatten.length ≤ 999000
section
variable {P : Program} {w : World} {K : PySem.W.Frag} {mg : Str → Option Value} {base : Heap}
theorem ok_need_orders {f CP : Addr} {fd : FuncData} (F : Fun K "need_orders" "need_orders" s_need_orders f fd) (G_need_part : MtG P w K mg base 1 CP "need_part" ["self", "name"] (spNeedPart K CP)) (G_need_many : FnG P w K mg base 1 "need_many" ["number", "low", "high"] spNeedMany) (c_MOST_MANY : GlI mg "MOST_MANY" 999) (c_LAST_MINUTE : GlI mg "LAST_MINUTE" 9999) : FnOk P w K mg base CX0 2 f fd ["book", "orders"] (spNeedOrders K CP) := by
  refine F.ok sc_need_orders (fun vs H Q E h => ?_) (fun cdv Ar outer s H0 vs Q E hr h => ?_)
  · obtain ⟨B, p, u, rs, os, rfl, _⟩ := h
    rfl
  · obtain ⟨B, p, u, rs, os, rfl, ex, bk, hu, ok, kk⟩ := h
    have S0 : Ok ⟨B, H0, []⟩ B [] H0 := Ok.start0 ex
    refine with_al (P := P) (w := w) (K := K) hr (fun al => ?_)
    refine ⟨_, (pss_cons (ps_asg pe_int (pg_name (i := 2) sc_need_orders.nd rfl (by first | exact Or.inl rfl | exact Or.inr rfl))) (pss_one (ps_for PassesOwn.never rfl (pi_val al (pv 1)) (pg_tupU (n := 3) K (pgs_cons (pg_name (i := 3) sc_need_orders.nd rfl (by first | exact Or.inl rfl | exact Or.inr rfl)) (pgs_cons (pg_name (i := 4) sc_need_orders.nd rfl (by first | exact Or.inl rfl | exact Or.inr rfl)) (pgs_cons (pg_name (i := 5) sc_need_orders.nd rfl (by first | exact Or.inl rfl | exact Or.inr rfl)) pgs_nil)))) (pss_cons (ps_expr (pe_mth G_need_part (hr.mono (by first | decide | omega)) (pv 0) (pa_cons (pv 3) pa_nil))) (pss_cons (ps_expr (pe_fn G_need_many (hr.mono (by first | decide | omega)) rfl (pa_cons (pv 4) (pa_cons pe_int (pa_cons (pe_gi c_MOST_MANY rfl) pa_nil))))) (pss_cons (ps_expr (pe_fn G_need_many (hr.mono (by first | decide | omega)) rfl (pa_cons (pv 5) (pa_cons (pv 2) (pa_cons (pe_gi c_LAST_MINUTE rfl) pa_nil))))) (pss_one (ps_asg (pv 5) (pg_name (i := 2) sc_need_orders.nd rfl (by first | exact Or.inl rfl | exact Or.inr rfl)))))))))), ?_⟩
    repeat tb_start
    refine forDL (enc := encOr) S0 hu (fun i σ B1 L1 => ∃ bf : Int, (∃ yy3 yy4 yy5, σ = [some (.ref p), some (u), some (.int bf), yy3, yy4, yy5]) ∧ L1 = [] ∧ (bf = 0 ∨ ∃ j y, j + 1 = i ∧ os[j]? = some y ∧ bf = y.2.2)) ?_ ?_ ?_
    · exact ⟨0, ⟨_, _, _, rfl⟩, rfl, .inl rfl⟩
    · rintro i y xv σ B1 B2 L1 H2 hget ⟨bf, ⟨_, _, _, rfl⟩, rfl, hbf⟩ e1 e2 S2 hxv
      have hmem := List.mem_of_getElem? hget
      obtain ⟨r, hr0⟩ := ok.part y hmem
      have hm := ok.many y hmem
      have hn := ok.min y hmem
      have hlo : bf ≤ y.2.2 := by
        rcases hbf with rfl | ⟨j, z, rfl, hz, rfl⟩
        · exact hn.1
        · exact ok.up j z y hz hget
      obtain ⟨dxb, ab, lb, rkv, lkv, hb1, hb2, hb3, _, _⟩ := id bk
      have hbp : H2 p = some (.ins CP dxb (fldsP ab lb)) := S2.ex _ _ (e2 _ _ (e1 _ _ hb1))
      refine r_gtupD S2 hxv rfl fun vs hvs => ?_
      obtain ⟨v1, _, rfl, h1, hvs⟩ := hvs.cons_inv
      obtain ⟨v2, _, rfl, h2, hvs⟩ := hvs.cons_inv
      obtain ⟨v3, _, rfl, h3, hvs⟩ := hvs.cons_inv
      obtain rfl := hvs.nil_inv
      obtain rfl := h1.str_inv
      obtain rfl := h2.int_inv
      obtain rfl := h3.int_inv
      repeat tb_start
      refine ⟨B2, p, rs, r, y.1, rfl, S2.ex, bk.up (e1.trans e2), hr0, ?_⟩
      repeat tb_start
      refine ⟨y.2.1, 1, 999, rfl, hm.1, hm.2, ?_⟩
      repeat tb_start
      refine ⟨y.2.2, bf, 9999, rfl, hlo, hn.2, ?_⟩
      repeat tb_start
      exact NxE.mk' S2 (e1.trans e2) ⟨y.2.2, ⟨_, _, _, rfl⟩, rfl, .inr ⟨i, y, rfl, hget, rfl⟩⟩
    · rintro σ B1 L1 H1 ⟨bf, ⟨_, _, _, rfl⟩, rfl, _⟩ e1 S1
      repeat tb_start
      exact kk B1 H1 e1 S1
theorem ok_worked {f CP CQ : Addr} {fd : FuncData} (F : Fun K "worked" "worked" s_worked f fd) (ck : CkQ K CQ) (clP : Cls K CP) (G_Parts : MkG P w K mg base 3 CP "Parts" ["self", "told"] (spPInit K CP)) (G_need_orders : FnG P w K mg base 2 "need_orders" ["book", "orders"] (spNeedOrders K CP)) (G_Queue : MkG P w K mg base 1 CQ "Queue" ["self"] (spQInit K CQ)) (G_steps_of : MtG P w K mg base 1 CP "steps_of" ["self", "name"] (spStepsOf K CP)) (G_next_one : MtG P w K mg base 1 CQ "next_one" ["self"] (spNextOne K CQ)) (n_enumerate : mg "enumerate" = none) (n_range : mg "range" = none) (n_min : mg "min" = none) (n_len : mg "len" = none) : FnOk P w K mg base CX0 5 f fd ["parts", "orders"] (spWorked K) := by
  obtain ⟨cQ, nW, nF⟩ := ck
  refine F.ok sc_worked (fun vs H Q E h => ?_) (fun cdv Ar outer s H0 vs Q E hr h => ?_)
  · obtain ⟨B, v, u, rs, os, rfl, _⟩ := h
    rfl
  · obtain ⟨B, v, u, rs, os, rfl, ex, hv, hu, G, ok, kk⟩ := h
    have S0 : Ok ⟨B, H0, []⟩ B [] H0 := Ok.start0 ex
    obtain ⟨hS, hS5⟩ := stOf_good G os
    refine with_al (P := P) (w := w) (K := K) hr (fun al => ?_)
    refine ⟨_, (pss_cons (ps_asg (pe_mk G_Parts (hr.mono (by first | decide | omega)) rfl (pa_cons (pv 0) pa_nil)) (pg_name (i := 2) sc_worked.nd rfl (by first | exact Or.inl rfl | exact Or.inr rfl))) (pss_cons (ps_expr (pe_fn G_need_orders (hr.mono (by first | decide | omega)) rfl (pa_cons (pv 2) (pa_cons (pv 1) pa_nil)))) (pss_cons (ps_asg (pe_mk0 G_Queue (hr.mono (by first | decide | omega)) rfl) (pg_name (i := 3) sc_worked.nd rfl (by first | exact Or.inl rfl | exact Or.inr rfl))) (pss_cons (ps_for PassesOwn.never rfl (pi_enumV (by rfl) n_enumerate (pa_cons (pv 1) pa_nil)) (pg_tupU (n := 2) K (pgs_cons (pg_name (i := 4) sc_worked.nd rfl (by first | exact Or.inl rfl | exact Or.inr rfl)) (pgs_cons (pg_tupU (n := 3) K (pgs_cons (pg_name (i := 5) sc_worked.nd rfl (by first | exact Or.inl rfl | exact Or.inr rfl)) (pgs_cons (pg_name (i := 6) sc_worked.nd rfl (by first | exact Or.inl rfl | exact Or.inr rfl)) (pgs_cons (pg_name (i := 7) sc_worked.nd rfl (by first | exact Or.inl rfl | exact Or.inr rfl)) pgs_nil)))) pgs_nil))) (pss_one (ps_if (pt_cmpR (opU al) (pe_mth G_steps_of (hr.mono (by first | decide | omega)) (pv 2) (pa_cons (pv 5) pa_nil)) (pe_tup pa_nil) (nomark _)) (pss_cons (ps_asg (pe_ix (ixU al) (pe_ix (ixU al) (pe_mth G_steps_of (hr.mono (by first | decide | omega)) (pv 2) (pa_cons (pv 5) pa_nil)) pe_int (fun _ _ => rfl)) pe_int (fun _ _ => rfl)) (pg_name (i := 8) sc_worked.nd rfl (by first | exact Or.inl rfl | exact Or.inr rfl))) (pss_one (ps_expr (pe_bmU K PySem.F.plainAttrs_list PySem.F.slot_list_extend PySem.F.type_list_extend (metU al) (pe_ix (ixU al) (pe_fldU K (pv 3) rfl) (pv 8) (fun _ _ => rfl)) (pa_cons (pe_lc (own := [("piece", 9)]) al.calm sc_worked.nd (pi_range1 (by rfl) n_range (pa_cons (pv 6) pa_nil)) (blkOk_by (own := [("piece", 9)]) (N := ["parts", "orders", "book", "queue", "order", "name", "many", "minute", "first", "piece", "at", "found", "told", "begin", "machine", "steps", "step", "end"]) (sc := (defScope s_worked)) (by decide +kernel)) (fun _ _ _ _ _ => (pg_name (i := 9) sc_worked.nd rfl (by first | exact Or.inl rfl | exact Or.inr rfl))) (fun _ _ _ _ _ => pts_nil) (fun _ _ _ _ _ => (pe_tup (pa_cons (pv 7) (pa_cons (pv 4) (pa_cons (pv 9) pa_nil)))))) pa_nil))))) pss_nil))) (pss_cons (ps_asg pe_dnewT (pg_name (i := 10) sc_worked.nd rfl (by first | exact Or.inl rfl | exact Or.inr rfl))) (pss_cons (ps_asg (pe_lst pa_nil) (pg_name (i := 11) sc_worked.nd rfl (by first | exact Or.inl rfl | exact Or.inr rfl))) (pss_one (ps_while PassesOwn.never (pt_val pe_bl) (pss_cons (ps_asg (pe_mth0 G_next_one (hr.mono (by first | decide | omega)) (pv 3)) (pg_name (i := 12) sc_worked.nd rfl (by first | exact Or.inl rfl | exact Or.inr rfl))) (pss_cons (ps_if (pt_cmpR op_isN (pv 12) pe_non (nomark _)) (pss_one (ps_ret (pv 11))) pss_nil) (pss_cons (ps_asg (pv 12) (pg_tupU (n := 4) K (pgs_cons (pg_name (i := 13) sc_worked.nd rfl (by first | exact Or.inl rfl | exact Or.inr rfl)) (pgs_cons (pg_name (i := 14) sc_worked.nd rfl (by first | exact Or.inl rfl | exact Or.inr rfl)) (pgs_cons (pg_name (i := 4) sc_worked.nd rfl (by first | exact Or.inl rfl | exact Or.inr rfl)) (pgs_cons (pg_name (i := 9) sc_worked.nd rfl (by first | exact Or.inl rfl | exact Or.inr rfl)) pgs_nil)))))) (pss_cons (ps_asg (pe_mth G_steps_of (hr.mono (by first | decide | omega)) (pv 2) (pa_cons (pe_ix (ixU al) (pe_ix (ixU al) (pv 1) (pv 4) (fun _ _ => rfl)) pe_int (fun _ _ => rfl)) pa_nil)) (pg_name (i := 15) sc_worked.nd rfl (by first | exact Or.inl rfl | exact Or.inr rfl))) (pss_cons (ps_asg (pe_bmU K PySem.F.plainAttrs_dict PySem.F.slot_dict_get PySem.F.type_dict_get (metU al) (pv 10) (pa_cons (pe_tup (pa_cons (pv 4) (pa_cons (pv 9) pa_nil))) (pa_cons pe_int pa_nil))) (pg_name (i := 16) sc_worked.nd rfl (by first | exact Or.inl rfl | exact Or.inr rfl))) (pss_cons (ps_asg (pe_op (opU al) (pv 13) (pe_ix (ixU al) (pe_ix (ixU al) (pv 15) (pv 16) (fun _ _ => rfl)) pe_int (fun _ _ => rfl))) (pg_name (i := 17) sc_worked.nd rfl (by first | exact Or.inl rfl | exact Or.inr rfl))) (pss_cons (ps_expr (pe_bmU K PySem.F.plainAttrs_list PySem.F.slot_list_remove PySem.F.type_list_remove (metU al) (pe_ix (ixU al) (pe_fldU K (pv 3) rfl) (pv 14) (fun _ _ => rfl)) (pa_cons (pe_callB (callU al) (by rfl) n_min b_min (pa_cons (pe_ix (ixU al) (pe_fldU K (pv 3) rfl) (pv 14) (fun _ _ => rfl)) pa_nil)) pa_nil))) (pss_cons (ps_asg (pv 17) (pg_sub (pe_fldU K (pv 3) rfl) (pv 14) (setU al))) (pss_cons (ps_expr (pe_bmU K PySem.F.plainAttrs_list PySem.F.slot_list_append PySem.F.type_list_append (metU al) (pv 11) (pa_cons (pe_tup (pa_cons (pv 4) (pa_cons (pv 9) (pa_cons (pv 16) (pa_cons (pv 14) (pa_cons (pv 13) (pa_cons (pv 17) pa_nil))))))) pa_nil))) (pss_cons (ps_asg (pe_op (opU al) (pv 16) pe_int) (pg_sub (pv 10) (pe_tup (pa_cons (pv 4) (pa_cons (pv 9) pa_nil))) (setU al))) (pss_one (ps_if (pt_cmpR (opU al) (pe_op (opU al) (pv 16) pe_int) (pe_callB (callU al) (by rfl) n_len b_len (pa_cons (pv 15) pa_nil)) (nomark _)) (pss_one (ps_expr (pe_bmU K PySem.F.plainAttrs_list PySem.F.slot_list_append PySem.F.type_list_append (metU al) (pe_ix (ixU al) (pe_fldU K (pv 3) rfl) (pe_ix (ixU al) (pe_ix (ixU al) (pv 15) (pe_op (opU al) (pv 16) pe_int) (fun _ _ => rfl)) pe_int (fun _ _ => rfl)) (fun _ _ => rfl)) (pa_cons (pe_tup (pa_cons (pv 17) (pa_cons (pv 4) (pa_cons (pv 9) pa_nil)))) pa_nil)))) pss_nil)))))))))))))))))))), ?_⟩
    repeat tb_start
    refine mkQ S0 fun x dx1 H1 S1 => ?_
    refine ⟨B, x, dx1, v, rs, rfl, S1.sub (L1 := [_]), hv, G, fun a l rkv lkv B2 H2 e2 RK LK T2 => retQ ?_⟩
    have S2 : Ok ⟨B, H0, []⟩ B2 [(l, .dK lkv), (a, .dK rkv), (x, .ins CP dx1 (fldsP a l))] H2 := S1.call (L1 := [_]) (L2 := []) T2
    obtain ⟨B3, e3, bk, S3⟩ : ∃ B3, Ex B2 B3 ∧ BookAt K CP B3 x rs ∧ Ok ⟨B, H0, []⟩ B3 [] H2 := by
      have f1 := S2.exF
      have S2a := S2.freeze
      have f2 := S2a.exF
      have S2b := S2a.freeze
      have f3 := S2b.exF
      have S2c := S2b.freeze
      exact ⟨_, f1.trans (f2.trans f3), ⟨dx1, a, l, rkv, lkv, upd_same, f3 _ _ upd_same, f3 _ _ (f2 _ _ upd_same), RK.up (f1.trans (f2.trans f3)), LK.up (f1.trans (f2.trans f3))⟩, S2c⟩
    clear S2 S1 T2
    have e03 : Ex B B3 := e2.trans e3
    repeat tb_start
    refine ⟨B3, x, u, rs, os, rfl, S3.ex, bk, hu.up e03, ok, fun B4 H4 e4 T4 => ?_⟩
    have S4 := S3.callP T4
    clear S3 T4
    repeat tb_start
    refine mkQ S4 fun q dxq H5 S5 => ?_
    refine ⟨B4, q, dxq, rfl, S5.sub (L1 := [_]), fun A0 B6 H6 e6 T6 qb0 hw0 hf0 hq0 => retQ ?_⟩
    subst hq0
    have S6 : Ok ⟨B, H0, []⟩ B6 (QL CQ A0 ++ []) H6 := S5.call (L1 := [_]) (L2 := []) T6
    clear S4 S5 T6
    have e06 : Ex B B6 := e03.trans (e4.trans e6)
    have e36 := e4.trans e6
    repeat tb_start
    refine enuD S6 (.inl (hu.up e06)) fun J hsrc => ?_
    refine forDS hsrc S6 (fun i σ B1 L1 => ∃ (A : AQ), (∃ yy4 yy5 yy6 yy7 yy8 yy9 yy10 yy11 yy12 yy13 yy14 yy15 yy16 yy17, σ = [some (v), some (u), some (.ref x), some (.ref A.q), yy4, yy5, yy6, yy7, yy8, yy9, yy10, yy11, yy12, yy13, yy14, yy15, yy16, yy17]) ∧ L1 = QL CQ A ++ [] ∧ QB K B1 A ∧ A.ws.map (·.w) = (os.zipIdx.take i).foldl (fun w x => addOr (stOf rs os) w x.1 x.2) (List.replicate 6 []) ∧ A.free = List.replicate 6 0) (fun _ _ _ _ e _ => e) ?_ ?_ ?_
    · exact ⟨A0, ⟨_, _, _, _, _, _, _, _, _, _, _, _, _, _, rfl⟩, rfl, qb0, hw0, hf0⟩
    · rintro i ⟨y, n⟩ xv σ B7 B8 L7 H8 hget ⟨A, ⟨_, _, _, _, _, _, _, _, _, _, _, _, _, _, rfl⟩, rfl, qb, hw, hf⟩ e7 e8 S8 ⟨T, uo, rfl, hT, huo⟩
      obtain ⟨hget', hni⟩ := zipIdx_at hget
      dsimp only at hget' hni hT huo
      subst hni
      have hbk8 := bk.up (e36.trans (e7.trans e8))
      have hn := (List.getElem?_eq_some_iff.mp hget').1
      obtain ⟨r, hr0⟩ := ok.part y (List.mem_of_getElem? hget')
      have hmm := ok.many y (List.mem_of_getElem? hget')
      have hsr := stOf_row hget' hr0
      have hq := qsOk_take hS os n (by omega)
      have hq2 := manyOf_le ok
      have hz : os.zipIdx[n]? = some (y, n) := by rw [List.getElem?_zipIdx, hget']; simp
      have htk : (os.zipIdx.take (n + 1)).foldl (fun w x => addOr (stOf rs os) w x.1 x.2) (List.replicate 6 []) = addOr (stOf rs os) ((os.zipIdx.take n).foldl (fun w x => addOr (stOf rs os) w x.1 x.2) (List.replicate 6 [])) y n := by
        rw [List.take_add_one, hz, List.foldl_append]
        rfl
      have hlen6 : A.ws.length = 6 := by
        rw [← List.length_map (f := (·.w)), hw]
        exact hq.w6
      obtain ⟨dxb, ab, lb, rkv, lkv, hb1, _⟩ := id hbk8
      have hbx : H8 x = some (.ins CP dxb (fldsP ab lb)) := S8.ex _ _ hb1
      refine r_gtupB S8 hT rfl ?_
      show gCons _ _ [_, uo] _ _ _
      repeat tb_start
      refine r_gtupD S8 huo rfl fun vs hvs => ?_
      obtain ⟨v1, _, rfl, h1, hvs⟩ := hvs.cons_inv
      obtain ⟨v2, _, rfl, h2, hvs⟩ := hvs.cons_inv
      obtain ⟨v3, _, rfl, h3, hvs⟩ := hvs.cons_inv
      obtain rfl := hvs.nil_inv
      obtain rfl := h1.str_inv
      obtain rfl := h2.int_inv
      obtain rfl := h3.int_inv
      repeat tb_start
      refine ⟨B8, x, rs, r, y.1, rfl, S8.ex, hbk8, hr0, fun sv hsv => ?_⟩
      repeat tb_start
      refine new_tup S8 (by decide) fun t9 B9 H9 e9 ht9 S9 => ?_
      refine v_neTNilD S9 (hsv.up e9) (S9.tqStay ht9) ?_
      have hbx9 : H9 x = some (.ins CP dxb (fldsP ab lb)) := S9.ex _ _ (e9 _ _ hb1)
      cases hst : r.steps with
      | nil =>
        repeat tb_start
        refine ifF rfl ?_
        repeat tb_start
        refine NxE.mk' S9 (e7.trans (e8.trans e9)) ⟨A, ⟨_, _, _, _, _, _, _, _, _, _, _, _, _, _, rfl⟩, rfl, qb.up (e8.trans e9), ?_, hf⟩
        rw [htk, hw, addOr_none (by rw [hsr, hst]; rfl)]
      | cons z zs =>
        have hz0 : (stOf rs os n)[0]? = some z := by rw [hsr, hst]; rfl
        have hzb := hS n z (List.mem_of_getElem? hz0)
        obtain ⟨m, hm⟩ : ∃ m : Nat, z.1 = (m : Int) := ⟨z.1.toNat, by omega⟩
        have hm6 : m < 6 := by omega
        have hmt : z.1.toNat = m := by omega
        obtain ⟨xq, hxq⟩ : ∃ xq, A.ws[m]? = some xq := ⟨_, List.getElem?_eq_getElem (by omega)⟩
        have hqc : H9 A.q = some (.ins CQ A.dx (qF A)) := (S9.own _ (.head _)).1
        have hwa : H9 A.wa = some (.lst (A.ws.map fun x => .ref x.a)) := (S9.own _ (.tail _ (.head _))).1
        have hxa : H9 xq.a = some (.lst xq.vs) := (S9.own _ (List.mem_append_left _ (mQx hxq))).1
        have hix : (A.ws.map fun x => V.ref x.a)[m]? = some (.ref xq.a) := by rw [List.getElem?_map, hxq]; rfl
        repeat tb_start
        refine ifT rfl ?_
        repeat tb_start
        refine ⟨B9, x, rs, r, y.1, rfl, S9.ex, hbk8.up e9, hr0, fun sv2 hsv2 => ?_⟩
        repeat tb_start
        refine v_ixDT (j := 0) S9 hsv2 rfl (by rw [hst]; rfl) fun u0 hu0 => ?_
        repeat tb_start
        refine v_ixDT (j := 0) S9 hu0 rfl rfl fun u1 hu1 => ?_
        obtain rfl := hu1.int_inv
        rw [hm]
        repeat tb_start
        refine v_ixL (SqL.of hwa) (atI_nat hix) ?_
        repeat tb_start
        refine rngQ (by omega) (by omega) ?_
        refine lcPure K src_rng S9 (fun _ _ _ _ => True.intro) (fun _ => true) (fun k => encWt (y.2.2, n, k)) (by rw [List.length_range]; omega) ?_ ?_
        · rintro k xv B10 D acc H10 C Cs hk e10 S10 rfl kC kS
          repeat tb_start
          refine ⟨rfl, ?_⟩
          repeat tb_start
          refine new_tupD (K := K) S10 (.cons (.int _) (.cons (.int _) (.cons (.int _) .nil))) (by show 3 ≤ 1000; decide) fun t11 B11 H11 e11 S11 ht11 => ?_
          exact kC _ _ _ rfl e11 S11 ht11
        intro D acc B10 H10 e10 S10 hacc
        rw [filter_tt] at hacc
        have hnew : ((List.range y.2.1.toNat).map fun k => encWt (y.2.2, n, k)) = ((List.range y.2.1.toNat).map fun p => ((y.2.2, n, p) : Wt)).map encWt := by rw [List.map_map]; rfl
        rw [hnew] at hacc
        have S11 : Ok ⟨B, H0, []⟩ B10 (QL CQ A ++ [(D, .lst acc)]) H10 := S10.perm (by
          rw [List.append_nil]
          exact (List.perm_append_comm (l₁ := [(D, HO.lst acc)])))
        have hxd := qb xq (List.mem_of_getElem? hxq)
        have hxw : xq.w.length ≤ 999000 := by
          have h1 : xq.w ∈ A.ws.map (·.w) := List.mem_map.mpr ⟨xq, List.mem_of_getElem? hxq, rfl⟩
          rw [hw] at h1
          have h2 := (List.sublist_flatten_of_mem h1).length_le
          have h3 := hq.few
          have h4 := manyOf_take n os
          omega
        have hvl : xq.vs.length = xq.w.length := by rw [hxd.length, List.length_map]
        have hal : acc.length = y.2.1.toNat := by rw [hacc.length, List.length_map, List.length_map, List.length_range]
        repeat tb_start
        refine v_extendN (m + 3) S11 (QL_at hxq) (S11.own _ (List.mem_append_right _ (.head _))).1 (by rw [hvl, hal, sizeLine_eq]; omega) fun H12 S12 => ?_
        rw [QL_put hxq _ (xq.w ++ (List.range y.2.1.toNat).map fun p => ((y.2.2, n, p) : Wt))] at S12
        have S13 : Ok ⟨B, H0, []⟩ B10 (QL CQ (A.put m ⟨xq.a, xq.vs ++ acc, xq.w ++ (List.range y.2.1.toNat).map fun p => ((y.2.2, n, p) : Wt)⟩) ++ []) H12 := by
          rw [List.append_nil]
          exact (S12.perm (List.perm_append_comm (l₂ := [(D, HO.lst acc)]))).drop
        have e810 := e8.trans (e9.trans e10)
        repeat tb_start
        refine NxE.mk' S13 (e7.trans e810) ⟨A.put m _, ⟨_, _, _, _, _, _, _, _, _, _, _, _, _, _, rfl⟩, rfl, QB.put (qb.up e810) ?_, ?_, hf⟩
        · rw [List.map_append]
          exact (hxd.up e810).append hacc
        · rw [put_w, htk, hw, addOr_some hz0, hmt]
          have hg : ((os.zipIdx.take n).foldl (fun w x => addOr (stOf rs os) w x.1 x.2) (List.replicate 6 [])).getD m [] = xq.w := by
            rw [← hw, List.getD_eq_getElem?_getD, List.getElem?_map, hxq]
            rfl
          rw [hg]
    · rintro σ B7 L7 H7 ⟨A1, ⟨_, _, _, _, _, _, _, _, _, _, _, _, _, _, rfl⟩, rfl, qb1, hw1, hf1⟩ e7 S7
      have htl : os.zipIdx.take os.zipIdx.length = os.zipIdx := List.take_length
      rw [htl] at hw1
      obtain ⟨okq1, hfew1⟩ := startQ_ok hS os
      obtain ⟨rows, hrun1⟩ := runs_ex hS _ _ okq1 rfl
      have hl51 := left_le hS5 (startQ (stOf rs os) os)
      have hmo := manyOf_le ok
      have e37 := e36.trans e7
      repeat tb_start
      refine new_dT S7 fun d H8 S8 => ?_
      repeat tb_start
      refine new_lst S8 (by decide) fun D H9 S9 => ?_
      have S9' : Ok ⟨B, H0, []⟩ B7 (QL CQ A1 ++ [(d, .dT (kvP [])), (D, .lst [])]) H9 := S9.perm (by
        rw [List.append_nil]
        exact (List.Perm.swap (d, HO.dT []) (D, HO.lst []) (QL CQ A1)).trans (List.perm_append_comm (l₁ := [(d, HO.dT []), (D, HO.lst [])])))
      repeat tb_start
      refine ⟨WorkW K ⟨B, H0, []⟩ B7 CQ v u x d D rs os rows, ⟨_, A1, startQ (stOf rs os) os, [], B7, ⟨_, _, _, _, _, _, _, _, _, _, _, _, rfl⟩, S9', Ex.refl _, qb1, hw1, hf1, .nil, okq1, hrun1, rfl, ?_, Nat.le_refl _, by omega⟩, ?_⟩
      · show 0 + _ ≤ _
        omega
      clear S9 S9' S8 S7 qb1 hw1 hf1 okq1 hl51 hfew1
      rintro m0 σ H10 ⟨A, q, xs, B10, ⟨_, _, _, _, _, _, _, _, _, _, _, _, rfl⟩, S10, e10, qb, hw, hf, hxs, okq, hrun, hlm, hfl, hal, hwl⟩
      have hqc : H10 A.q = some (.ins CQ A.dx (qF A)) := (S10.own _ (.head _)).1
      have hlen6 : A.ws.length = 6 := by rw [← List.length_map (f := (·.w)), hw]; exact okq.w6
      have hflen : A.free.length = 6 := by rw [hf]; exact okq.f6
      repeat tb_start
      refine ⟨fun σ' H' => ∃ m', m' < m0 ∧ WorkW K ⟨B, H0, []⟩ B7 CQ v u x d D rs os rows m' σ' H', fun _ _ h => h, ?_⟩
      repeat tb_start
      refine ⟨B10, A, rfl, S10.sub (L1 := QL CQ A), qb, hlen6, hflen, fun v11 B11 H11 e11 T11 ho => ?_⟩
      have S11 : Ok ⟨B, H0, []⟩ B11 (QL CQ A ++ [(d, .dT (kvP q.at_)), (D, .lst xs)]) H11 := S10.call (L1 := QL CQ A) T11
      clear S10 T11
      rw [hw, hf] at ho
      cases hnx : q.next with
      | none =>
        rw [show minO ltCd (q.wait.zipIdx.filterMap fun x => candOf q.free x.2 x.1) = none from hnx] at ho
        obtain rfl : v11 = .non := ho
        repeat tb_start
        refine ⟨rfl, ?_⟩
        repeat tb_start
        refine ifdT rfl ?_
        repeat tb_start
        have hrw : rows = q.found := Runs.det hrun (.stop hnx)
        have S12 : Ok ⟨B, H0, []⟩ B11 ((QL CQ A ++ [(d, .dT (kvP q.at_))]) ++ [(D, .lst xs)]) H11 := by rw [List.append_assoc]; exact S11
        exact kk D xs rows B11 H11 (e06.trans (e7.trans (e10.trans e11))) (Ok.right S12) (by rw [hrw]; exact hxs.up e11) hrun1
      | some c =>
        rw [show minO ltCd (q.wait.zipIdx.filterMap fun x => candOf q.free x.2 x.1) = some c from hnx] at ho
        obtain ⟨hcd, hnn⟩ : Dp K B11 v11 (encCd c) ∧ v11 ≠ .non := ho
        repeat tb_start
        refine ⟨rfl, ?_⟩
        repeat tb_start
        have hlf := step_left okq hS hnx
        have hok2 := okq.step hS hnx
        have hrun2 : Runs (stOf rs os) (q.step (stOf rs os) c) rows := by
          cases hrun with
          | stop h => rw [hnx] at h; cases h
          | step h k => rw [hnx] at h; cases h; exact k
        have hwl2 : (q.step (stOf rs os) c).wait.flatten.length ≤ 999000 := by
          obtain ⟨_, _, _, p1, p2⟩ := step_perm okq hS hnx
          have h1 := p1.length_eq
          rw [List.length_cons] at h1
          rcases p2 with ⟨_, _, p⟩ | ⟨_, p⟩
          · have h2 := p.length_eq
            rw [List.length_cons] at h2
            omega
          · have h2 := p.length_eq
            omega
        obtain ⟨b, mm, o, p⟩ := c
        obtain ⟨w0, x0, hw0, hx0, hx0m, hx0c, _⟩ := next_at hnx
        dsimp only at hw0 hx0c
        obtain ⟨hon, mi, hmi⟩ := okq.it mm w0 x0 hw0 hx0m
        rw [hx0c] at hon hmi
        dsimp only at hon hmi
        have hoy : os[o]? = some os[o] := List.getElem?_eq_getElem hon
        generalize os[o] = y at hoy
        obtain ⟨r, hr0⟩ := ok.part y (List.mem_of_getElem? hoy)
        have hsr := stOf_row hoy hr0
        have hmm6 : mm < 6 := by
          have := (List.getElem?_eq_some_iff.mp hw0).1
          rw [okq.w6] at this
          exact this
        obtain ⟨xq, hxq⟩ : ∃ xq, A.ws[mm]? = some xq := ⟨_, List.getElem?_eq_getElem (by omega)⟩
        have hxqw : xq.w = w0 := by
          have h1 : (A.ws.map (·.w))[mm]? = some xq.w := by rw [List.getElem?_map, hxq]; rfl
          rw [hw, hw0] at h1
          exact (Option.some.inj h1).symm
        have hxd := (qb xq (List.mem_of_getElem? hxq)).up e11
        rw [hxqw] at hxd
        generalize hs : getP q.at_ (o, p) = s at hmi
        have hsl : s < r.steps.length := by rw [← hsr]; exact (List.getElem?_eq_some_iff.mp hmi).1
        have e711 := e10.trans e11
        have hbk11 := bk.up (e37.trans e711)
        obtain ⟨dxb, ab, lb, rkv, lkv, hb1, _⟩ := id hbk11
        have hbx : H11 x = some (.ins CP dxb (fldsP ab lb)) := S11.ex _ _ hb1
        refine r_gtupD S11 hcd rfl fun vs hvs => ?_
        obtain ⟨v1, _, rfl, h1, hvs⟩ := hvs.cons_inv
        obtain ⟨v2, _, rfl, h2, hvs⟩ := hvs.cons_inv
        obtain ⟨v3, _, rfl, h3, hvs⟩ := hvs.cons_inv
        obtain ⟨v4, _, rfl, h4, hvs⟩ := hvs.cons_inv
        obtain rfl := hvs.nil_inv
        obtain rfl := h1.int_inv
        obtain rfl := h2.int_inv
        obtain rfl := h3.int_inv
        obtain rfl := h4.int_inv
        repeat tb_start
        refine v_ixDL (j := o) S11 (hu.up (e03.trans (e37.trans e711))) rfl (by rw [List.getElem?_map, hoy]; rfl) fun uy huy => ?_
        repeat tb_start
        refine v_ixDT (j := 0) S11 huy rfl rfl fun un hun => ?_
        obtain rfl := hun.str_inv
        repeat tb_start
        refine ⟨B11, x, rs, r, y.1, rfl, S11.ex, hbk11, hr0, fun sv hsv => ?_⟩
        have hdd : H11 d = some (.dT (kvP q.at_)) := (S11.own _ (List.mem_append_right _ (.head _))).1
        repeat tb_start
        refine bmDT hdd ?_
        repeat tb_start
        refine new_tup S11 (by show 2 ≤ sizeLine; decide) fun t12 B12 H12 e12 ht12 S12 => ?_
        repeat tb_start
        refine v_getPair (k := (o, p)) (l := q.at_) (S12.own _ (List.mem_append_right _ (.head _))).1 (S12.ex _ _ ht12) ?_
        rw [hs]
        repeat tb_start
        refine v_ixDT (j := s) S12 (hsv.up e12) rfl (d := encStep ((mm : Int), mi)) (by rw [List.getElem?_map, ← hsr, hmi]; rfl) fun us hus => ?_
        repeat tb_start
        refine v_ixDT (j := 1) S12 hus rfl rfl fun um hum => ?_
        obtain rfl := hum.int_inv
        have hqc12 : H12 A.q = some (.ins CQ A.dx (qF A)) := (S12.own _ (.head _)).1
        have hwa12 : H12 A.wa = some (.lst (A.ws.map fun x => .ref x.a)) := (S12.own _ (.tail _ (.head _))).1
        have hxa12 : H12 xq.a = some (.lst xq.vs) := (S12.own _ (List.mem_append_left _ (mQx hxq))).1
        have hix : (A.ws.map fun x => V.ref x.a)[mm]? = some (.ref xq.a) := by rw [List.getElem?_map, hxq]; rfl
        repeat tb_start
        refine v_ixL (SqL.of hwa12) (atI_nat hix) ?_
        repeat tb_start
        refine v_ixL (SqL.of hwa12) (atI_nat hix) ?_
        repeat tb_start
        refine v_minA lt_encWt alike_Wt depth_Wt S12 hxa12 (hxd.up e12) hx0 fun mv hmv => ?_
        repeat tb_start
        refine v_remWt (mm + 3) S12 (QL_at hxq) (hxd.up e12) hmv hx0m fun ys H13 hys S13 => ?_
        rw [QL_put hxq ys (w0.erase x0)] at S13
        have hqc13 : H13 A.q = some (.ins CQ A.dx (qF A)) := (S13.own _ (.head _)).1
        have hfa13 : H13 A.fa = some (.lst (A.free.map V.int)) := (S13.own _ (.tail _ (.tail _ (.head _)))).1
        repeat tb_start
        refine v_setLN 2 S13 rfl (j := mm) (ixN_of rfl (by show mm < (A.free.map V.int).length; rw [List.length_map]; omega)) fun H14 S14' => ?_
        have S14 : Ok ⟨B, H0, []⟩ B12 (QL CQ ((A.put mm ⟨xq.a, ys, w0.erase x0⟩).fr mm (b + mi)) ++ [(d, .dT (kvP q.at_)), (D, .lst xs)]) H14 := by rw [← QL_fr]; exact S14'
        clear S14' S13 S12
        have qb14 : QB K B12 ((A.put mm ⟨xq.a, ys, w0.erase x0⟩).fr mm (b + mi)) := QB.put (A := A) (qb.up (e11.trans e12)) hys
        have hw14 : ((A.put mm ⟨xq.a, ys, w0.erase x0⟩).fr mm (b + mi)).ws.map (·.w) = q.wait.set mm (w0.erase x0) := by
          show (A.put mm ⟨xq.a, ys, w0.erase x0⟩).ws.map (·.w) = _
          rw [put_w, hw]
        have hf14 : ((A.put mm ⟨xq.a, ys, w0.erase x0⟩).fr mm (b + mi)).free = (q.step (stOf rs os) (b, mm, o, p)).free := by
          show A.free.set mm (b + mi) = q.free.set mm (b + ((stOf rs os o)[getP q.at_ (o, p)]?.getD (0, 0)).2)
          rw [hf, hs, hmi]
          rfl
        have haq14 : ((A.put mm ⟨xq.a, ys, w0.erase x0⟩).fr mm (b + mi)).q = A.q := rfl
        have hwa14 : ((A.put mm ⟨xq.a, ys, w0.erase x0⟩).fr mm (b + mi)).wa = A.wa := rfl
        have hfound : (q.step (stOf rs os) (b, mm, o, p)).found = q.found ++ [⟨o, p, s, mm, b, b + mi⟩] := by
          show q.found ++ [⟨o, p, getP q.at_ (o, p), mm, b, b + ((stOf rs os o)[getP q.at_ (o, p)]?.getD (0, 0)).2⟩] = _
          rw [hs, hmi]
          rfl
        have hat : (q.step (stOf rs os) (b, mm, o, p)).at_ = putP q.at_ (o, p) (s + 1) := by
          show putP q.at_ (o, p) (getP q.at_ (o, p) + 1) = _
          rw [hs]
        have hwn := fun h => stepW_none (b := b) (p := p) (S := stOf rs os) (q := q) (o := o) hw0 hx0 h
        have hws := fun y h => stepW_some (b := b) (p := p) (S := stOf rs os) (q := q) (o := o) (y := y) hw0 hx0 h
        rw [hs] at hwn hws
        rw [hmi] at hws
        have hxsl : xs.length = q.found.length := by rw [hxs.length, List.length_map]
        generalize hA3 : (A.put mm ⟨xq.a, ys, w0.erase x0⟩).fr mm (b + mi) = A3 at S14 qb14 hw14 hf14 haq14 hwa14
        have hD14 : H14 D = some (.lst xs) := (S14.own _ (List.mem_append_right _ (.tail _ (.head _)))).1
        repeat tb_start
        refine new_tupD (K := K) S14 (.cons (.int _) (.cons (.int _) (.cons (.int _) (.cons (.int _) (.cons (.int _) (.cons (.int _) .nil)))))) (by show 6 ≤ 1000; decide) fun t15 B15 H15 e15 S15 ht15 => ?_
        repeat tb_start
        refine v_appendN (A3.ws.length + 4) S15 QL_e (by rw [hxsl, sizeLine_eq]; omega) fun H16 S16 => ?_
        rw [QL_sete] at S16
        have hs1 : (s : Int) + 1 = ((s + 1 : Nat) : Int) := by omega
        repeat tb_start
        rw [hs1]
        refine new_tup S16 (by show 2 ≤ sizeLine; decide) fun t17 B17 H17 e17 ht17 S17 => ?_
        refine v_setPairN (k := (o, p)) (l := q.at_) (v := s + 1) (A3.ws.length + 3) S17 QL_d (S17.ex _ _ ht17) (by rw [sizeLine_eq]; omega) fun H18 S18 => ?_
        rw [QL_setd] at S18
        have e1117 := e12.trans (e15.trans e17)
        have hsv18 := hsv.up e1117
        have hfound18 : DpAll K B17 (xs ++ [.ref t15]) ((q.step (stOf rs os) (b, mm, o, p)).found.map encWr) := by
          rw [hfound, List.map_append]
          exact (hxs.up (e11.trans e1117)).snoc (ht15.up e17)
        have hlen18 : (q.step (stOf rs os) (b, mm, o, p)).found.length = q.found.length + 1 := by rw [hfound, List.length_append]; rfl
        have hal18 : (q.step (stOf rs os) (b, mm, o, p)).at_.length ≤ (q.step (stOf rs os) (b, mm, o, p)).found.length := by
          rw [hat, hlen18]
          have := putP_len q.at_ (o, p) (s + 1)
          omega
        have qb18 := qb14.up (e15.trans e17)
        have hstep2 : ∀ y, (stOf rs os o)[s + 1]? = some y → ∃ u, r.steps[s + 1]? = some u ∧ u = y := fun y h => ⟨y, by rw [← hsr]; exact h, rfl⟩
        clear S14 S15 S16 S17
        rw [← haq14]
        cases hnx2 : (stOf rs os o)[s + 1]? with
        | none =>
          have hge : ¬ ((s : Int) + 1 < ((r.steps.map encStep).length : Int)) := by
            rw [List.length_map, ← hsr]
            have := List.getElem?_eq_none_iff.mp hnx2
            omega
          repeat tb_start
          refine ⟨_, by omega, A3, q.step (stOf rs os) (b, mm, o, p), xs ++ [.ref t15], B17, ⟨_, _, _, _, _, _, _, _, _, _, _, _, rfl⟩, ?_, e711.trans e1117, qb18, hw14.trans (hwn hnx2).symm, hf14, hfound18, hok2, hrun2, rfl, by omega, hal18, hwl2⟩
          rw [hat]
          exact S18
        | some y2 =>
          have hlt : ((s : Int) + 1 < ((r.steps.map encStep).length : Int)) := by
            rw [List.length_map, ← hsr]
            have := (List.getElem?_eq_some_iff.mp hnx2).1
            omega
          have hy2 := hS o y2 (List.mem_of_getElem? hnx2)
          obtain ⟨m2, hm2⟩ : ∃ m2 : Nat, y2.1 = (m2 : Int) := ⟨y2.1.toNat, by omega⟩
          have hm2t : y2.1.toNat = m2 := by omega
          have hlen3 : A3.ws.length = 6 := by rw [← List.length_map (f := (·.w)), hw14, List.length_set]; exact okq.w6
          obtain ⟨xq2, hxq2⟩ : ∃ xq2, A3.ws[m2]? = some xq2 := ⟨_, List.getElem?_eq_getElem (by omega)⟩
          have hxw2 : (q.wait.set mm (w0.erase x0))[m2]? = some xq2.w := by rw [← hw14, List.getElem?_map, hxq2]; rfl
          have hxd2 := qb18 xq2 (List.mem_of_getElem? hxq2)
          have hx2l : xq2.vs.length ≤ 999000 := by
            rw [hxd2.length, List.length_map]
            have h1 : xq2.w ∈ q.wait.set mm (w0.erase x0) := List.mem_of_getElem? hxw2
            rcases List.mem_or_eq_of_mem_set h1 with h1 | h1
            · have := (List.sublist_flatten_of_mem h1).length_le
              omega
            · rw [h1]
              have h2 := (List.sublist_flatten_of_mem (List.mem_of_getElem? hw0)).length_le
              have h3 := (List.erase_sublist (a := x0) (l := w0)).length_le
              omega
          have hwa18 : H18 A3.wa = some (.lst (A3.ws.map fun x => .ref x.a)) := (S18.own _ (.tail _ (.head _))).1
          have hxa18 : H18 xq2.a = some (.lst xq2.vs) := (S18.own _ (List.mem_append_left _ (mQx hxq2))).1
          have hix2 : (A3.ws.map fun x => V.ref x.a)[m2]? = some (.ref xq2.a) := by rw [List.getElem?_map, hxq2]; rfl
          repeat tb_start
          refine v_ixDT (j := s + 1) S18 hsv18 hs1 (d := encStep y2) (by rw [List.getElem?_map, ← hsr, hnx2]; rfl) fun uz huz => ?_
          repeat tb_start
          refine v_ixDT (j := 0) S18 huz rfl rfl fun u0 hu0 => ?_
          obtain rfl := hu0.int_inv
          rw [hm2]
          refine v_ixL (SqL.of hwa18) (atI_nat hix2) ?_
          repeat tb_start
          refine new_tupD (K := K) S18 (.cons (.int _) (.cons (.int _) (.cons (.int _) .nil))) (by show 3 ≤ 1000; decide) fun t19 B19 H19 e19 S19 ht19 => ?_
          refine v_appendN (m2 + 3) S19 (QL_at hxq2) (by rw [sizeLine_eq]; omega) fun H20 S20 => ?_
          rw [QL_put hxq2 _ (xq2.w ++ [(b + mi, o, p)])] at S20
          have hwf : (A3.put m2 ⟨xq2.a, xq2.vs ++ [.ref t19], xq2.w ++ [(b + mi, o, p)]⟩).ws.map (·.w) = (q.step (stOf rs os) (b, mm, o, p)).wait := by
            rw [put_w, hw14, hws y2 hnx2, hm2t]
            have : (q.wait.set mm (w0.erase x0)).getD m2 [] = xq2.w := by rw [List.getD_eq_getElem?_getD, hxw2]; rfl
            rw [this]
            rfl
          repeat tb_start
          refine ⟨_, by omega, A3.put m2 ⟨xq2.a, xq2.vs ++ [.ref t19], xq2.w ++ [(b + mi, o, p)]⟩, q.step (stOf rs os) (b, mm, o, p), xs ++ [.ref t15], B19, ⟨_, _, _, _, _, _, _, _, _, _, _, _, rfl⟩, ?_, e711.trans (e1117.trans e19), QB.put (qb18.up e19) ?_, hwf, hf14, hfound18.up e19, hok2, hrun2, rfl, by omega, hal18, hwl2⟩
          · rw [hat]
            exact S20
          · rw [List.map_append]
            exact (hxd2.up e19).snoc ht19
end
end LW

namespace LW
open PySem PySem.Spec PyProof.Rows L2 WK PM
abbrev s_ends : Stmt := topS 26
theorem sc_ends : FnScope ["parts", "orders", "rows", "found", "name", "many", "minute", "order", "piece", "step", "machine", "begin", "end"] ["parts", "orders"] (defScope s_ends) := ⟨rfl, rfl, rfl, by decide +kernel, rfl, by decide +kernel, by decide +kernel⟩
abbrev s_used : Stmt := topS 27
theorem sc_used : FnScope ["parts", "orders", "found", "order", "piece", "step", "machine", "begin", "end"] ["parts", "orders"] (defScope s_used) := ⟨rfl, rfl, rfl, by decide +kernel, rfl, by decide +kernel, by decide +kernel⟩
def spEnds (K : PySem.W.Frag) : Sp := fun vs H Q _ => ∃ (B : Hp) (v u : V) (rs : List PRow) (os : List Or), vs = [v, u] ∧ Ex B H ∧ Dpl K B v (rs.map encRow) ∧ Dp K B u (.list (os.map encOr)) ∧ GoodBook rs ∧ OrsOk rs os ∧
  ∀ (D : Addr) (rows : List Wr) B' H', Ex B B' → Ok ⟨B, H, []⟩ B' [(D, .lst ((endsOf os rows).map V.int))] H' → Runs (stOf rs os) (startQ (stOf rs os) os) rows → Q (.ref D) H'
def spUsed (K : PySem.W.Frag) : Sp := fun vs H Q _ => ∃ (B : Hp) (v u : V) (rs : List PRow) (os : List Or), vs = [v, u] ∧ Ex B H ∧ Dpl K B v (rs.map encRow) ∧ Dp K B u (.list (os.map encOr)) ∧ GoodBook rs ∧ OrsOk rs os ∧
  ∀ (D : Addr) (rows : List Wr) B' H', Ex B B' → Ok ⟨B, H, []⟩ B' [(D, .lst ((usedOf rows).map V.int))] H' → Runs (stOf rs os) (startQ (stOf rs os) os) rows → Q (.ref D) H'
section
variable {P : Program} {w : World} {K : PySem.W.Frag} {mg : Str → Option Value} {base : Heap}
theorem ok_ends {f : Addr} {fd : FuncData} (F : Fun K "ends" "ends" s_ends f fd) (G_worked : FnG P w K mg base 5 "worked" ["parts", "orders"] (spWorked K)) (n_max : mg "max" = none) : FnOk P w K mg base CX0 6 f fd ["parts", "orders"] (spEnds K) := by
  refine F.ok sc_ends (fun vs H Q E h => ?_) (fun cdv Ar outer s H0 vs Q E hr h => ?_)
  · obtain ⟨B, v, u, rs, os, rfl, _⟩ := h
    rfl
  · obtain ⟨B, v, u, rs, os, rfl, ex, hv, hu, G, ok, kk⟩ := h
    have S0 : Ok ⟨B, H0, []⟩ B [] H0 := Ok.start0 ex
    have hfew := ok.few
    refine with_al (P := P) (w := w) (K := K) hr (fun al => ?_)
    refine ⟨_, (pss_cons (ps_asg (pe_fn G_worked (hr.mono (by first | decide | omega)) rfl (pa_cons (pv 0) (pa_cons (pv 1) pa_nil))) (pg_name (i := 2) sc_ends.nd rfl (by first | exact Or.inl rfl | exact Or.inr rfl))) (pss_cons (ps_setLc (i := 3) (own := [("name", 4), ("many", 5), ("minute", 6)]) al.calm sc_ends.nd rfl rfl (sw_true rfl rfl rfl (by decide +kernel)) (pi_val al (pv 1)) (blkOk_by (own := [("name", 4), ("many", 5), ("minute", 6)]) (N := ["parts", "orders", "rows", "found", "name", "many", "minute", "order", "piece", "step", "machine", "begin", "end"]) (sc := (defScope s_ends)) (by decide +kernel)) (fun _ _ _ _ _ => (pg_tupU (n := 3) K (pgs_cons (pg_name (i := 4) sc_ends.nd rfl (by first | exact Or.inl rfl | exact Or.inr rfl)) (pgs_cons (pg_name (i := 5) sc_ends.nd rfl (by first | exact Or.inl rfl | exact Or.inr rfl)) (pgs_cons (pg_name (i := 6) sc_ends.nd rfl (by first | exact Or.inl rfl | exact Or.inr rfl)) pgs_nil))))) (fun _ _ _ _ _ => pts_nil) (fun _ _ _ _ _ => (pv 6))) (pss_cons (ps_for PassesOwn.never rfl (pi_val al (pv 2)) (pg_tupU (n := 6) K (pgs_cons (pg_name (i := 7) sc_ends.nd rfl (by first | exact Or.inl rfl | exact Or.inr rfl)) (pgs_cons (pg_name (i := 8) sc_ends.nd rfl (by first | exact Or.inl rfl | exact Or.inr rfl)) (pgs_cons (pg_name (i := 9) sc_ends.nd rfl (by first | exact Or.inl rfl | exact Or.inr rfl)) (pgs_cons (pg_name (i := 10) sc_ends.nd rfl (by first | exact Or.inl rfl | exact Or.inr rfl)) (pgs_cons (pg_name (i := 11) sc_ends.nd rfl (by first | exact Or.inl rfl | exact Or.inr rfl)) (pgs_cons (pg_name (i := 12) sc_ends.nd rfl (by first | exact Or.inl rfl | exact Or.inr rfl)) pgs_nil))))))) (pss_one (ps_asg (pe_callB (callU al) (by rfl) n_max b_max (pa_cons (pe_ix (ixU al) (pv 3) (pv 7) (fun _ _ => rfl)) (pa_cons (pv 12) pa_nil))) (pg_sub (pv 3) (pv 7) (setU al))))) (pss_one (ps_ret (pv 3)))))), ?_⟩
    repeat tb_start
    refine ⟨B, v, u, rs, os, rfl, ex, hv, hu, G, ok, fun D xs rows B1 H1 e1 T1 hxs hrun => ?_⟩
    have S1 : Ok ⟨B, H0, []⟩ B1 [(D, .lst xs)] H1 := S0.callN T1
    obtain ⟨B2, e2, S2, hD2⟩ := S1.toData hxs
    have hin := worked_in G hrun
    clear S1 T1
    repeat tb_start
    refine lcDL (enc := encOr) S2 (hu.up (e1.trans e2)) (fun i acc B3 L1 => acc = ((os.take i).map (·.2.2)).map V.int ∧ L1 = []) ⟨rfl, rfl⟩ ?_ ?_
    · rintro i y xv acc B3 B4 L1 D4 H4 hget ⟨rfl, rfl⟩ e3 e4 S4 hxv
      have hi := (List.getElem?_eq_some_iff.mp hget).1
      refine r_gtupD S4 hxv rfl fun vs hvs => ?_
      obtain ⟨v1, _, rfl, h1, hvs⟩ := hvs.cons_inv
      obtain ⟨v2, _, rfl, h2, hvs⟩ := hvs.cons_inv
      obtain ⟨v3, _, rfl, h3, hvs⟩ := hvs.cons_inv
      obtain rfl := hvs.nil_inv
      obtain rfl := h1.str_inv
      obtain rfl := h2.int_inv
      obtain rfl := h3.int_inv
      repeat tb_start
      refine ⟨rfl, ?_⟩
      repeat tb_start
      refine Acc.mk S4 (by rw [List.length_map, List.length_map, List.length_take, sizeLine_eq]; omega) ⟨e3.trans e4, ?_, rfl⟩
      rw [List.take_add_one, hget, List.map_append, List.map_append]
      rfl
    · rintro acc B3 L1 D3 H3 ⟨rfl, rfl⟩ e3 S3
      rw [List.take_length] at S3
      repeat tb_start
      refine forDL (enc := encWr) S3 (hD2.up e3) (fun i σ B1 L1 => (∃ yy4 yy5 yy6 yy7 yy8 yy9 yy10 yy11 yy12, σ = [some (v), some (u), some (.ref D), some (.ref D3), yy4, yy5, yy6, yy7, yy8, yy9, yy10, yy11, yy12]) ∧ L1 = [(D3, .lst ((endsOf os (rows.take i)).map V.int))]) ?_ ?_ ?_
      · exact ⟨⟨_, _, _, _, _, _, _, _, _, rfl⟩, rfl⟩
      · rintro i y xv σ B4 B5 L1 H5 hget ⟨⟨_, _, _, _, _, _, _, _, _, rfl⟩, rfl⟩ e4 e5 S5 hxv
        obtain ⟨hyo, hym⟩ := hin y (List.mem_of_getElem? hget)
        have hel := endsOf_len os (rows.take i)
        have hg := getD_ints (l := endsOf os (rows.take i)) (i := y.o) (by omega)
        have hmx : (if y.e > (endsOf os (rows.take i)).getD y.o 0 then y.e else (endsOf os (rows.take i)).getD y.o 0) = max ((endsOf os (rows.take i)).getD y.o 0) y.e := by split <;> omega
        have hst : endsOf os (rows.take (i + 1)) = (endsOf os (rows.take i)).set y.o (max ((endsOf os (rows.take i)).getD y.o 0) y.e) := foldl_take _ _ hget
        refine r_gtupD S5 hxv rfl fun vs hvs => ?_
        obtain ⟨v1, _, rfl, h1, hvs⟩ := hvs.cons_inv
        obtain ⟨v2, _, rfl, h2, hvs⟩ := hvs.cons_inv
        obtain ⟨v3, _, rfl, h3, hvs⟩ := hvs.cons_inv
        obtain ⟨v4, _, rfl, h4, hvs⟩ := hvs.cons_inv
        obtain ⟨v5, _, rfl, h5, hvs⟩ := hvs.cons_inv
        obtain ⟨v6, _, rfl, h6, hvs⟩ := hvs.cons_inv
        obtain rfl := hvs.nil_inv
        obtain rfl := h1.int_inv
        obtain rfl := h2.int_inv
        obtain rfl := h3.int_inv
        obtain rfl := h4.int_inv
        obtain rfl := h5.int_inv
        obtain rfl := h6.int_inv
        repeat tb_start
        refine v_ixL (SqL.of (S5.own _ (.head _)).1) (atI_nat hg) ?_
        repeat tb_start
        rw [hmx]
        refine v_setLN 0 S5 rfl (j := y.o) (ixN_of rfl (by rw [List.length_map]; omega)) fun H6 S6 => ?_
        repeat tb_start
        refine NxE.mk' S6 (e4.trans e5) ⟨⟨_, _, _, _, _, _, _, _, _, rfl⟩, ?_⟩
        rw [hst, ← set_ints]
        rfl
      · rintro σ B4 L1 H4 ⟨⟨_, _, _, _, _, _, _, _, _, rfl⟩, rfl⟩ e4 S4
        rw [List.take_length] at S4
        repeat tb_start
        exact kk D3 rows B4 H4 (e1.trans (e2.trans (e3.trans e4))) S4 hrun
theorem ok_used {f : Addr} {fd : FuncData} (F : Fun K "used" "used" s_used f fd) (G_worked : FnG P w K mg base 5 "worked" ["parts", "orders"] (spWorked K)) (c_MACHINES : GlI mg "MACHINES" 6) : FnOk P w K mg base CX0 6 f fd ["parts", "orders"] (spUsed K) := by
  refine F.ok sc_used (fun vs H Q E h => ?_) (fun cdv Ar outer s H0 vs Q E hr h => ?_)
  · obtain ⟨B, v, u, rs, os, rfl, _⟩ := h
    rfl
  · obtain ⟨B, v, u, rs, os, rfl, ex, hv, hu, G, ok, kk⟩ := h
    have S0 : Ok ⟨B, H0, []⟩ B [] H0 := Ok.start0 ex
    refine with_al (P := P) (w := w) (K := K) hr (fun al => ?_)
    refine ⟨_, (pss_cons (ps_asg (pe_op (opU al) (pe_lst (pa_cons pe_int pa_nil)) (pe_gi c_MACHINES rfl)) (pg_name (i := 2) sc_used.nd rfl (by first | exact Or.inl rfl | exact Or.inr rfl))) (pss_cons (ps_for PassesOwn.never rfl (pi_val al (pe_fn G_worked (hr.mono (by first | decide | omega)) rfl (pa_cons (pv 0) (pa_cons (pv 1) pa_nil)))) (pg_tupU (n := 6) K (pgs_cons (pg_name (i := 3) sc_used.nd rfl (by first | exact Or.inl rfl | exact Or.inr rfl)) (pgs_cons (pg_name (i := 4) sc_used.nd rfl (by first | exact Or.inl rfl | exact Or.inr rfl)) (pgs_cons (pg_name (i := 5) sc_used.nd rfl (by first | exact Or.inl rfl | exact Or.inr rfl)) (pgs_cons (pg_name (i := 6) sc_used.nd rfl (by first | exact Or.inl rfl | exact Or.inr rfl)) (pgs_cons (pg_name (i := 7) sc_used.nd rfl (by first | exact Or.inl rfl | exact Or.inr rfl)) (pgs_cons (pg_name (i := 8) sc_used.nd rfl (by first | exact Or.inl rfl | exact Or.inr rfl)) pgs_nil))))))) (pss_one (ps_augS (pv 2) (pv 6) (getU al) (pe_op (opU al) (pv 8) (pv 7)) (ipU al) (setU al)))) (pss_one (ps_ret (pv 2))))), ?_⟩
    repeat tb_start
    refine new_lst S0 (by decide) fun z H1 S1 => ?_
    refine v_rep S1 (S1.own _ (.head _)).1 (by decide) (by decide) (by decide) fun D3 H2 S2 => ?_
    have S3 : Ok ⟨B, H0, []⟩ B [(D3, .lst ((usedOf []).map V.int))] H2 := (S2.perm (.swap _ _ _)).drop
    clear S1 S2
    repeat tb_start
    refine ⟨B, v, u, rs, os, rfl, S3.ex, hv, hu, G, ok, fun D xs rows B1 H4 e1 T1 hxs hrun => ?_⟩
    have S4 : Ok ⟨B, H0, []⟩ B1 [(D, .lst xs), (D3, .lst ((usedOf []).map V.int))] H4 := S3.callN T1
    obtain ⟨B5, e5, S5, hD5⟩ := S4.toData hxs
    have hin := worked_in G hrun
    clear S3 S4 T1
    refine forDL (enc := encWr) S5 hD5 (fun i σ B1 L1 => (∃ yy3 yy4 yy5 yy6 yy7 yy8, σ = [some (v), some (u), some (.ref D3), yy3, yy4, yy5, yy6, yy7, yy8]) ∧ L1 = [(D3, .lst ((usedOf (rows.take i)).map V.int))]) ?_ ?_ ?_
    · exact ⟨⟨_, _, _, _, _, _, rfl⟩, rfl⟩
    · rintro i y xv σ B6 B7 L1 H7 hget ⟨⟨_, _, _, _, _, _, rfl⟩, rfl⟩ e6 e7 S7 hxv
      obtain ⟨hyo, hym⟩ := hin y (List.mem_of_getElem? hget)
      have hel := usedOf_len (rows.take i)
      have hg := getD_ints (l := usedOf (rows.take i)) (i := y.m) (by omega)
      have hst : usedOf (rows.take (i + 1)) = (usedOf (rows.take i)).set y.m ((usedOf (rows.take i)).getD y.m 0 + (y.e - y.b)) := foldl_take _ _ hget
      refine r_gtupD S7 hxv rfl fun vs hvs => ?_
      obtain ⟨v1, _, rfl, h1, hvs⟩ := hvs.cons_inv
      obtain ⟨v2, _, rfl, h2, hvs⟩ := hvs.cons_inv
      obtain ⟨v3, _, rfl, h3, hvs⟩ := hvs.cons_inv
      obtain ⟨v4, _, rfl, h4, hvs⟩ := hvs.cons_inv
      obtain ⟨v5, _, rfl, h5, hvs⟩ := hvs.cons_inv
      obtain ⟨v6, _, rfl, h6, hvs⟩ := hvs.cons_inv
      obtain rfl := hvs.nil_inv
      obtain rfl := h1.int_inv
      obtain rfl := h2.int_inv
      obtain rfl := h3.int_inv
      obtain rfl := h4.int_inv
      obtain rfl := h5.int_inv
      obtain rfl := h6.int_inv
      repeat tb_start
      refine v_getLst (SqL.of (S7.own _ (.head _)).1) hg ?_
      repeat tb_start
      refine v_setLN 0 S7 rfl (j := y.m) (ixN_of rfl (by rw [List.length_map]; omega)) fun H8 S8 => ?_
      repeat tb_start
      refine NxE.mk' S8 (e6.trans e7) ⟨⟨_, _, _, _, _, _, rfl⟩, ?_⟩
      rw [hst, ← set_ints]
      rfl
    · rintro σ B6 L1 H6 ⟨⟨_, _, _, _, _, _, rfl⟩, rfl⟩ e6 S6
      rw [List.take_length] at S6
      repeat tb_start
      exact kk D3 rows B6 H6 (e1.trans (e5.trans e6)) S6 hrun
end
end LW

namespace LW
open PySem PySem.Spec PyProof.Rows L2 WK PM
abbrev s__law_alike : Stmt := topS 31
theorem sc__law_alike : FnScope ["_law_found", "_law_due", "_law_k"] ["_law_found", "_law_due"] (defScope s__law_alike) := ⟨rfl, rfl, rfl, by decide +kernel, rfl, by decide +kernel, by decide +kernel⟩
def spAl (K : PySem.W.Frag) : Nat → Sp
  | 0 => fun _ _ _ _ => False
  | n + 1 => fun vs H Q _ => ∃ (B : Hp) (x y : V) (d : PyData), vs = [x, y] ∧ Ex B H ∧ Dp K B x d ∧ Dp K B y d ∧ AlOk n d ∧ ∀ B' H', Ok ⟨B, H, []⟩ B' [] H' → Q (.bl true) H'
section
variable {P : Program} {w : World} {K : PySem.W.Frag} {mg : Str → Option Value} {base : Heap}
theorem ok__law_alike0 {f : Addr} {fd : FuncData} : FnOk P w K mg base CX0 0 f fd ["_law_found", "_law_due"] (spAl K 0) := by
  exact ⟨fun vs H Q E h => False.elim h, fun _ _ _ _ _ _ _ _ _ _ _ _ _ h => False.elim h⟩
theorem ok__law_alikeS {f : Addr} {fd : FuncData} {n : Nat} (F : Fun K "_law_alike" "_law_alike" s__law_alike f fd) (G__law_alike : FnG P w K mg base n "_law_alike" ["_law_found", "_law_due"] (spAl K n))
    (n_isinstance : mg "isinstance" = none) (n_tuple : mg "tuple" = none) (n_list : mg "list" = none) (n_str : mg "str" = none) (n_int : mg "int" = none) (n_bool : mg "bool" = none) (n_len : mg "len" = none) (n_range : mg "range" = none) : FnOk P w K mg base CX0 (n + 1) f fd ["_law_found", "_law_due"] (spAl K (n + 1)) := by
  refine F.ok sc__law_alike (fun vs H Q E h => ?_) (fun cdv A outer s H vs Q E hr h => ?_)
  · obtain ⟨B, x, y, d, rfl, _⟩ := h
    rfl
  · obtain ⟨B, x, y, d, rfl, ex, hx, hy, hd, k⟩ := h
    have S := Ok.start0 ex
    refine with_al (P := P) (w := w) (K := K) hr (fun al => ?_)
    refine ⟨_, (pss_cons (ps_if (pt_val (pe_callB (callU al) (by rfl) n_isinstance b_isinstance (pa_cons (pv 1) (pa_cons (pe_tup (pa_cons (pe_bt n_tuple b_tuple (by rfl)) (pa_cons (pe_bt n_list b_list (by rfl)) pa_nil))) pa_nil)))) (pss_cons (ps_if (PW.pt (pw_or (pt_not (pt_val (pe_callB (callU al) (by rfl) n_isinstance b_isinstance (pa_cons (pv 0) (pa_cons (pe_tup (pa_cons (pe_bt n_tuple b_tuple (by rfl)) (pa_cons (pe_bt n_list b_list (by rfl)) pa_nil))) pa_nil))))) (pw_or1 (pt_cmpR (opU al) (pe_callB (callU al) (by rfl) n_isinstance b_isinstance (pa_cons (pv 0) (pa_cons (pe_bt n_list b_list (by rfl)) pa_nil))) (pe_callB (callU al) (by rfl) n_isinstance b_isinstance (pa_cons (pv 1) (pa_cons (pe_bt n_list b_list (by rfl)) pa_nil))) (nomark _))))) (pss_one (ps_ret pe_bl)) pss_nil) (pss_cons (ps_if (pt_cmpR (opU al) (pe_callB (callU al) (by rfl) n_len b_len (pa_cons (pv 0) pa_nil)) (pe_callB (callU al) (by rfl) n_len b_len (pa_cons (pv 1) pa_nil)) (nomark _)) (pss_one (ps_ret pe_bl)) pss_nil) (pss_one (ps_ret (pe_cmpR (opU al) (pe_lc (own := [("_law_k", 2)]) al.calm sc__law_alike.nd (pi_range1 (by rfl) n_range (pa_cons (pe_callB (callU al) (by rfl) n_len b_len (pa_cons (pv 1) pa_nil)) pa_nil)) (blkOk_by (own := [("_law_k", 2)]) (N := ["_law_found", "_law_due", "_law_k"]) (sc := (defScope s__law_alike)) (by decide +kernel)) (fun _ _ _ _ _ => (pg_name (i := 2) sc__law_alike.nd rfl (by first | exact Or.inl rfl | exact Or.inr rfl))) (fun _ _ _ _ _ => pts_one (pt_not (pt_val (pe_fn G__law_alike (hr.mono (by first | decide | omega)) rfl (pa_cons (pe_ix (ixU al) (pv 0) (pv 2) (fun _ _ => rfl)) (pa_cons (pe_ix (ixU al) (pv 1) (pv 2) (fun _ _ => rfl)) pa_nil)))))) (fun _ _ _ _ _ => (pv 2))) (pe_lst pa_nil) (nomark _)))))) pss_nil) (pss_cons (ps_if (PW.pt (pw_or (pt_cmpR op_isN (pv 1) pe_non (nomark _)) (pw_or1 (pt_val (pe_callB (callU al) (by rfl) n_isinstance b_isinstance (pa_cons (pv 1) (pa_cons (pe_bt n_str b_str (by rfl)) pa_nil))))))) (pss_one (ps_ret (pe_and (pe_cmpR (opU al) (pv 0) (pv 1) (nomark _)) (pe_one (pe_cmpR (opU al) (pe_callB (callU al) (by rfl) n_isinstance b_isinstance (pa_cons (pv 0) (pa_cons (pe_bt n_str b_str (by rfl)) pa_nil))) (pe_callB (callU al) (by rfl) n_isinstance b_isinstance (pa_cons (pv 1) (pa_cons (pe_bt n_str b_str (by rfl)) pa_nil))) (nomark _)))))) pss_nil) (pss_one (ps_ret (pe_and (pe_callB (callU al) (by rfl) n_isinstance b_isinstance (pa_cons (pv 0) (pa_cons (pe_bt n_int b_int (by rfl)) pa_nil))) (pe_and (pe_cmpR (opU al) (pe_callB (callU al) (by rfl) n_isinstance b_isinstance (pa_cons (pv 0) (pa_cons (pe_bt n_bool b_bool (by rfl)) pa_nil))) (pe_callB (callU al) (by rfl) n_isinstance b_isinstance (pa_cons (pv 1) (pa_cons (pe_bt n_bool b_bool (by rfl)) pa_nil))) (nomark _)) (pe_one (pe_cmpR (opU al) (pv 0) (pv 1) (nomark _))))))))), ?_⟩
    repeat tb_start
    refine new_tup S (by show 2 ≤ sizeLine; decide) fun t1 B1 H1 e1 ht1 S1 => ?_
    repeat tb_start
    refine v_isiTL S1 (by nest_fact) ht1 ?_
    repeat tb_start
    by_cases hsq : ∃ ds, d = .list ds ∨ d = .tuple ds
    · obtain ⟨ds, hds⟩ := hsq
      have h1 := isSeqT hds
      refine ifT h1 ?_
      have hxl : Dpl K B x ds := hds.elim (fun e => .inl (e ▸ hx)) fun e => .inr (e ▸ hx)
      have hyl : Dpl K B y ds := hds.elim (fun e => .inl (e ▸ hy)) fun e => .inr (e ▸ hy)
      obtain ⟨n', rfl, hlen, hall⟩ : ∃ n', n = n' + 1 ∧ ds.length ≤ 100000 ∧ ∀ d ∈ ds, AlOk n' d := by
        rcases hds with rfl | rfl
        · cases n with
          | zero => cases hd
          | succ n => exact ⟨n, rfl, hd.1, hd.2⟩
        · cases n with
          | zero => cases hd
          | succ n => exact ⟨n, rfl, hd.1, hd.2⟩
      repeat tb_start
      refine new_tup S1 (by show 2 ≤ sizeLine; decide) fun t2 B2 H2 e2 ht2 S2 => ?_
      repeat tb_start
      refine v_isiTL S2 (by nest_fact) ht2 ?_
      rw [h1]
      repeat tb_start
      refine v_isiD S2 (d := d) (by nest_fact) (by decide) ?_
      repeat tb_start
      refine v_isiD S2 (d := d) (by nest_fact) (by decide) ?_
      repeat tb_start
      refine v_neB ?_
      repeat tb_start
      refine ifndT rfl ?_
      repeat tb_start
      refine rngQ (by omega) (by omega) ?_
      rw [Int.toNat_natCast]
      refine lcPure K src_range S2 (fun _ _ _ _ => True.intro) (fun _ => false) (fun _ => .none) (by rw [List.length_range]; exact hlen) ?_ ?_
      · intro i xv B3 D3 acc3 H3 C Cs hi e3 S3 hxv kC kS
        subst hxv
        have hi' : i < ds.length := List.mem_range.mp hi
        obtain ⟨di, hdi⟩ : ∃ di, ds[i]? = some di := ⟨_, List.getElem?_eq_getElem hi'⟩
        repeat tb_start
        refine ⟨rfl, ?_⟩
        repeat tb_start
        refine v_ixDW S3 (hxl.up (by nest_room)) (j := i) (by omega) hdi fun u hu => ?_
        repeat tb_start
        refine v_ixDW S3 (hyl.up (by nest_room)) (j := i) (by omega) hdi fun u2 hu2 => ?_
        refine ⟨B3, u, u2, di, rfl, S3.ex, hu, hu2, hall di (List.mem_of_getElem? hdi), fun B4 H4 T4 => ?_⟩
        repeat tb_start
        exact kS _ _ rfl T4.ex0 (S3.callP T4)
      · intro D3 acc3 B3 H3 e3 S3 hacc3
        have hf : (List.range ds.length).filter (fun _ => false) = [] := List.filter_eq_nil_iff.mpr fun _ _ => by decide
        rw [hf] at hacc3
        obtain rfl := hacc3.nil_inv
        repeat tb_start
        refine new_lst S3 (by decide) fun l4 H4 S4 => ?_
        refine v_eqLen (S4.sqMem (.tail _ (.head _))) (S4.sqMem (.head _)) (.inr ⟨rfl, rfl⟩) ?_
        exact k _ _ S4.drop.drop
    · refine ifF (isSeqF hx hsq) ?_
      repeat tb_start
      cases hx with
      | lst h1 h2 => exact absurd ⟨_, .inl rfl⟩ hsq
      | tup h1 h2 => exact absurd ⟨_, .inr rfl⟩ hsq
      | non =>
        obtain rfl := hy.non_inv
        refine ⟨rfl, ?_⟩
        repeat tb_start
        refine ifdT rfl ?_
        repeat tb_start
        refine v_eqNon ?_
        repeat tb_start
        refine v_isiD (T := "str") S1 (d := .none) .non (by decide) ?_
        repeat tb_start
        refine v_isiD (T := "str") S1 (d := .none) .non (by decide) ?_
        repeat tb_start
        refine v_eqB ?_
        rw [decide_eq_true rfl]
        exact k _ _ S1
      | str z =>
        obtain rfl := hy.str_inv
        refine ⟨rfl, ?_⟩
        repeat tb_start
        refine ifdF (fun z => nomatch z) ?_
        repeat tb_start
        refine v_isiD (T := "str") S1 (d := .str z) (.str z) (by decide) ?_
        repeat tb_start
        refine ifT isT_ss ?_
        repeat tb_start
        refine ifdT rfl ?_
        repeat tb_start
        refine v_isiD (T := "str") S1 (d := .str z) (.str z) (by decide) ?_
        repeat tb_start
        refine v_isiD (T := "str") S1 (d := .str z) (.str z) (by decide) ?_
        repeat tb_start
        refine v_eqB ?_
        rw [decide_eq_true rfl]
        exact k _ _ S1
      | int i =>
        obtain rfl := hy.int_inv
        refine ⟨rfl, ?_⟩
        repeat tb_start
        refine ifdF (fun z => nomatch z) ?_
        repeat tb_start
        refine v_isiD (T := "str") S1 (d := .int i) (.int i) (by decide) ?_
        repeat tb_start
        refine ifF isT_is ?_
        repeat tb_start
        refine v_isiD (T := "int") S1 (d := .int i) (.int i) (by decide) ?_
        repeat tb_start
        refine ifT isT_ii ?_
        repeat tb_start
        refine v_isiD (T := "bool") S1 (d := .int i) (.int i) (by decide) ?_
        repeat tb_start
        refine v_isiD (T := "bool") S1 (d := .int i) (.int i) (by decide) ?_
        repeat tb_start
        refine v_eqB ?_
        repeat tb_start
        refine ifdT rfl ?_
        repeat tb_start
        rw [decide_eq_true rfl]
        exact k _ _ S1
      | bl i =>
        obtain rfl := hy.bl_inv
        refine ⟨rfl, ?_⟩
        repeat tb_start
        refine ifdF (fun z => nomatch z) ?_
        repeat tb_start
        refine v_isiD (T := "str") S1 (d := .bool i) (.bl i) (by decide) ?_
        repeat tb_start
        refine ifF isT_bs ?_
        repeat tb_start
        refine v_isiD (T := "int") S1 (d := .bool i) (.bl i) (by decide) ?_
        repeat tb_start
        refine ifT isT_bi ?_
        repeat tb_start
        refine v_isiD (T := "bool") S1 (d := .bool i) (.bl i) (by decide) ?_
        repeat tb_start
        refine v_isiD (T := "bool") S1 (d := .bool i) (.bl i) (by decide) ?_
        repeat tb_start
        refine v_eqB ?_
        repeat tb_start
        refine ifdT rfl ?_
        repeat tb_start
        refine v_eqB ?_
        rw [decide_eq_true rfl]
        exact k _ _ S1
end
end LW

namespace LW
open PySem PySem.Spec PyProof.Rows L2 WK PM
local macro_rules | `(tactic| kpr_short) => `(tactic| simp only [List.flatten_cons, List.flatten_nil, List.map_cons, List.map_nil, List.getD_cons_zero, List.getD_cons_succ, List.append_nil, List.append_assoc, List.cons_append, List.nil_append])
abbrev s__law_orders : Stmt := topS 34
theorem sc__law_orders : FnScope ["_law_h", "_law_rows", "_law_most", "_law_found", "_law_minute", "_law_k"] ["_law_h", "_law_rows", "_law_most"] (defScope s__law_orders) := ⟨rfl, rfl, rfl, by decide +kernel, rfl, by decide +kernel, by decide +kernel⟩
def spLOrders (K : PySem.W.Frag) : Sp := fun vs H Q _ => ∃ (B : Hp) (p q : Addr) (m : Int) (cs : List Int) (kk : Int) (v : V) (rs : List PRow), vs = [.ref p, v, .int 7] ∧ Ok ⟨B, H, [p, q]⟩ B (hL p q m cs kk) H ∧ HS cs kk ∧ Dp K B v (.list (rs.map encRow)) ∧ rs ≠ [] ∧ rs.length ≤ 12 ∧
  ∀ (D : Addr) (os : List Or) (t m' : Int) (cs' : List Int) (kk' : Int) (B' H' : Hp), Ex B B' → Ok ⟨B, H, [p, q]⟩ B' (hL p q m' cs' kk') H' → HS cs' kk' → Dp K B' (.ref D) (.list (os.map encOr)) → OrB rs 5 t os → os.length ≤ 6 → 0 ≤ t → t ≤ 90 → Q (.ref D) H'
section
variable {P : Program} {w : World} {K : PySem.W.Frag} {mg : Str → Option Value} {base : Heap}
theorem ok__law_orders {f : Addr} {fd : FuncData} (F : Fun K "_law_orders" "_law_orders" s__law_orders f fd) (G__law_next : FnG P w K mg base 1 "_law_next" ["_law_h", "_law_many"] spNext) (n_range : mg "range" = none) (n_len : mg "len" = none) : FnOk P w K mg base CX0 2 f fd ["_law_h", "_law_rows", "_law_most"] (spLOrders K) := by
  refine F.ok sc__law_orders (fun vs H Q E h => ?_) (fun cdv Ar outer s H vs Q E hr h => ?_)
  · obtain ⟨B, p, q, m, cs, kk, v, rs, rfl, _⟩ := h
    rfl
  · obtain ⟨B, p, q, m, cs, kk, v, rs, rfl, S, hS, hrows, hne, hlen, kend⟩ := h
    generalize hFe : (⟨B, H, [p, q]⟩ : Ent) = F0 at S kend
    have hrl : 0 < rs.length := by
      cases hh : rs with
      | nil => exact absurd hh hne
      | cons _ _ => exact Nat.succ_pos _
    refine with_al (P := P) (w := w) (K := K) hr (fun al => ?_)
    refine ⟨_, (pss_cons (ps_par (i := 3) (j := 4) al.calm sc__law_orders.nd rfl rfl (by decide) rfl rfl (pa_cons (pe_lst pa_nil) (pa_cons pe_int pa_nil)) (by rfl)) (pss_cons (ps_for PassesOwn.never rfl (pi_range1 (by rfl) n_range (pa_cons (pe_fn G__law_next (hr.mono (by first | decide | omega)) rfl (pa_cons (pv 0) (pa_cons (pv 2) pa_nil))) pa_nil)) (pg_name (i := 5) sc__law_orders.nd rfl (by first | exact Or.inl rfl | exact Or.inr rfl)) (pss_cons (ps_asg (pe_op (opU al) (pv 4) (pe_fn G__law_next (hr.mono (by first | decide | omega)) rfl (pa_cons (pv 0) (pa_cons (pe_ix (ixU al) (pe_lst (pa_cons pe_int (pa_cons pe_int pa_nil))) (pe_fn G__law_next (hr.mono (by first | decide | omega)) rfl (pa_cons (pv 0) (pa_cons pe_int pa_nil))) (fun _ _ => rfl)) pa_nil)))) (pg_name (i := 4) sc__law_orders.nd rfl (by first | exact Or.inl rfl | exact Or.inr rfl))) (pss_one (ps_expr (pe_bmU K PySem.F.plainAttrs_list PySem.F.slot_list_append PySem.F.type_list_append (metU al) (pv 3) (pa_cons (pe_tup (pa_cons (pe_ix (ixU al) (pe_ix (ixU al) (pv 1) (pe_fn G__law_next (hr.mono (by first | decide | omega)) rfl (pa_cons (pv 0) (pa_cons (pe_callB (callU al) (by rfl) n_len b_len (pa_cons (pv 1) pa_nil)) pa_nil))) (fun _ _ => rfl)) pe_int (fun _ _ => rfl)) (pa_cons (pe_op (opU al) pe_int (pe_fn G__law_next (hr.mono (by first | decide | omega)) rfl (pa_cons (pv 0) (pa_cons pe_int pa_nil)))) (pa_cons (pv 4) pa_nil)))) pa_nil)))))) (pss_one (ps_ret (pv 3))))), ?_⟩
    repeat tb_start
    refine new_lst S (by decide) fun lo H1 S1 => ?_
    repeat tb_start
    refine nextQ [(lo, .lst [])] [] S1 hS (by decide) (by decide) fun n9 m9 cs9 k9 H9 q0 q1 hS9 S9 => ?_
    repeat tb_start
    refine rngQ (by omega) (by omega) ?_
    refine forDS src_rng S9 (fun i σ B1 L1 => ∃ (t : Int) (os : List Or) (vo : List V) (m : Int) (cs : List Int) (kk : Int), (∃ yy5, σ = [some (.ref p), some (v), some (.int 7), some (.ref lo), some (.int t), yy5]) ∧ L1 = (lo, .lst vo) :: hL p q m cs kk ∧ HS cs kk ∧ OrB rs 5 t os ∧ DpAll K B1 vo (os.map encOr) ∧ os.length = i ∧ 0 ≤ t ∧ t ≤ 15 * (i : Int)) (fun _ _ _ _ _ _ => True.intro) ?_ ?_ ?_
    · exact ⟨0, [], [], _, _, _, ⟨_, rfl⟩, rfl, hS9, OrB.nil, .nil, rfl, by decide, by decide⟩
    · rintro k' k xv σ B10 B11 L10 H11 hgetk ⟨t, os, vo, m10, cs10, kk10, ⟨_, rfl⟩, rfl, hS10, hob, hvo, hol, ht0, ht1⟩ e10 e11 S11 rfl
      obtain ⟨rfl, hk⟩ := rng_at hgetk
      have hvol : vo.length = os.length := by rw [hvo.length, List.length_map]
      repeat tb_start
      refine new_lst S11 (by decide) fun D3 H12 S12 => ?_
      repeat tb_start
      refine nextQ [(D3, .lst [.int 3, .int 15]), (lo, .lst vo)] [] S12 hS10 (by decide) (by decide) fun r2 m2 cs2 kk2 H13 q2 q3 hS13 S13 => ?_
      obtain ⟨w, hw, w1, w2⟩ : ∃ w : Int, atI [V.int 3, V.int 15] r2 = some (.int w) ∧ 0 < w ∧ w ≤ 15 := by
        have : r2 = 0 ∨ r2 = 1 := by omega
        rcases this with rfl | rfl
        · exact ⟨3, rfl, by decide, by decide⟩
        · exact ⟨15, rfl, by decide, by decide⟩
      refine v_ixL (xs := [V.int 3, V.int 15]) (S13.sqMem (.head _)) hw ?_
      repeat tb_start
      refine nextQ [(lo, .lst vo)] [] S13.drop hS13 w1 (by omega) fun r3 m3 cs3 kk3 H14 q4 q5 hS14 S14 => ?_
      have hrows11 := hrows.up (e10.trans e11)
      repeat tb_start
      rw [List.length_map]
      refine nextQ [(lo, .lst vo)] [] S14 hS14 (by omega) (by omega) fun n13 m13 cs13 k13 H15 b0 b1 hS15 S15 => ?_
      obtain ⟨jr, rfl⟩ : ∃ jr : Nat, n13 = (jr : Int) := ⟨n13.toNat, by omega⟩
      have hjr : rs[jr]? = some rs[jr] := List.getElem?_eq_getElem (by omega)
      generalize rs[jr] = rr at hjr
      have hrow : ∃ r, PM.rowOf rs rr.name = some r := rowOf_ex hjr
      repeat tb_start
      refine v_ixDL (j := jr) S15 hrows11 rfl (by rw [List.getElem?_map, hjr]; rfl) fun ur hur => ?_
      repeat tb_start
      refine v_ixDT (j := 0) S15 hur rfl rfl fun un hun => ?_
      obtain rfl := hun.str_inv
      repeat tb_start
      refine nextQ [(lo, .lst vo)] [] S15 hS15 (by decide) (by decide) fun n14 m14 cs14 k14 H16 c0 c1 hS16 S16 => ?_
      repeat tb_start
      refine new_tupD (K := K) S16 (ds := [.str rr.name, .int (1 + n14), .int (t + r3)]) (.cons (.str _) (.cons (.int _) (.cons (.int _) .nil))) (by show 3 ≤ 1000; decide) fun t16 B16 H16 e16 S16 ht16 => ?_
      refine v_append S16 (by rw [hvol, sizeLine_eq]; omega) fun H17 S17 => ?_
      repeat tb_start
      refine NxE.mk' S17 (e10.trans (e11.trans e16)) ⟨t + r3, os ++ [(rr.name, 1 + n14, t + r3)], vo ++ [.ref t16], _, _, _, ⟨_, rfl⟩, rfl, hS16, ?_, ?_, ?_, by omega, by omega⟩
      · exact (hob.late (by omega)).snoc hrow ⟨by show 1 ≤ 1 + n14; omega, by show 1 + n14 ≤ 5; omega⟩ (by omega) rfl
      · rw [List.map_append]
        exact (hvo.up (e11.trans e16)).snoc ht16
      · rw [List.length_append, hol]
        rfl
    · rintro σ B10 L10 H10 ⟨t, os, vo, m10, cs10, kk10, ⟨_, rfl⟩, rfl, hS10, hob, hvo, hol, ht0, ht1⟩ e10 S10
      rw [List.length_range] at hol ht1
      obtain ⟨B12, e12, S12, hO⟩ := S10.toData hvo
      repeat tb_start
      exact kend lo os t m10 cs10 kk10 B12 H10 (e10.trans e12) S12 hS10 hO hob (by omega) ht0 (by omega)
end
end LW

namespace LW
open PySem PySem.Spec PyProof.Rows L2 WK PM
local macro_rules | `(tactic| kpr_short) => `(tactic| simp only [List.flatten_cons, List.flatten_nil, List.map_cons, List.map_nil, List.getD_cons_zero, List.getD_cons_succ, List.append_nil, List.append_assoc, List.cons_append, List.nil_append])
abbrev s__law_steps : Stmt := topS 35
theorem sc__law_steps : FnScope ["_law_rows", "_law_orders_here", "_law_steps_here", "_law_row", "_law_busy", "_law_found", "_law_left", "_law_name", "_law_many", "_law_minute", "_law_waiting", "_law_k", "_law_piece", "_law_machine", "_law_some", "_law_since", "_law_order", "_law_step"] ["_law_rows", "_law_orders_here"] (defScope s__law_steps) := ⟨rfl, rfl, rfl, by decide +kernel, rfl, by decide +kernel, by decide +kernel⟩
def spLSteps (K : PySem.W.Frag) : Sp := fun vs H Q _ => ∃ (B : Hp) (v u : V) (rs : List PRow) (os : List Or), vs = [v, u] ∧ Ex B H ∧ Dp K B v (.list (rs.map encRow)) ∧ Dp K B u (.list (os.map encOr)) ∧ GoodBook rs ∧ rs.length ≤ 12 ∧ OrsOk rs os ∧ (∀ x ∈ os, x.2.1 ≤ 5) ∧ os.length ≤ 6 ∧
  ∀ (D : Addr) (rows : List Wr) B' H', Ex B B' → Ok ⟨B, H, []⟩ B' [] H' → Dp K B' (.ref D) (.list (rows.map encWr)) → Runs (stOf rs os) (startQ (stOf rs os) os) rows → Q (.ref D) H'
def LawSt (K : PySem.W.Frag) (F0 : Ent) (B0 : Hp) (v u : V) (ds bu fo wa : Addr) (rs : List PRow) (os : List Or) (rows : List Wr) (T : Int) : Nat → L2.St → Hp → Prop := fun m σ H => ∃ (t : Int) (x : Lw) (q : Mq) (ws fs : List V) (B1 : Hp), (∃ yy3 yy7 yy8 yy11 yy12 yy13 yy14 yy15 yy16 yy17, σ = [some (v), some (u), some (.ref ds), yy3, some (.ref bu), some (.ref fo), some (.int (rows.length : Int)), yy7, yy8, some (.int t), some (.ref wa), yy11, yy12, yy13, yy14, yy15, yy16, yy17]) ∧ Ok F0 B1 [(wa, .lst ws), (fo, .lst fs), (bu, .lst (x.busy.map V.int))] H ∧ Ex B0 B1 ∧ DpAll K B1 ws (x.wt.map encCd) ∧ DpAll K B1 fs (x.found.map encWr) ∧ LRel (stOf rs os) os.length rows t 0 x q ∧ (T - t).toNat = m
section
variable {P : Program} {w : World} {K : PySem.W.Frag} {mg : Str → Option Value} {base : Heap}
theorem ok__law_steps {f : Addr} {fd : FuncData} (F : Fun K "_law_steps" "_law_steps" s__law_steps f fd) (n_range : mg "range" = none) (n_len : mg "len" = none) (n_dict : mg "dict" = none) (n_sum : mg "sum" = none) (n_min : mg "min" = none) : FnOk P w K mg base CX0 1 f fd ["_law_rows", "_law_orders_here"] (spLSteps K) := by
  refine F.ok sc__law_steps (fun vs H Q E h => ?_) (fun cdv Ar outer s H0 vs Q E hr h => ?_)
  · obtain ⟨B, v, u, rs, os, rfl, _⟩ := h
    rfl
  · obtain ⟨B, v, u, rs, os, rfl, ex, hrows, hO, G, hrl, okA, hm5, hol, kend⟩ := h
    have S0 : Ok ⟨B, H0, []⟩ B [] H0 := Ok.start0 ex
    generalize hFe : (⟨B, H0, []⟩ : Ent) = F0 at S0 kend
    obtain ⟨hS, hS5⟩ := stOf_good G os
    have hS1 := stOf_min G os
    obtain ⟨okq0, _⟩ := startQ_ok hS os
    obtain ⟨rows, hrun⟩ := runs_ex hS _ _ okq0 rfl
    have hlrows := worked_steps G (fun x hx => by have := (okA.many x hx).1; omega) hrun
    have hl150 := worked_len G (k := 5) hm5 hrun
    obtain ⟨T, hT⟩ := bound_b rows
    refine with_al (P := P) (w := w) (K := K) hr (fun al => ?_)
    refine ⟨_, (pss_cons (ps_asg (pe_callTy (callU al) (by rfl) n_dict b_dict (pa_cons (pe_lc (own := [("_law_row", 3)]) al.calm sc__law_steps.nd (pi_val al (pv 0)) (blkOk_by (own := [("_law_row", 3)]) (N := ["_law_rows", "_law_orders_here", "_law_steps_here", "_law_row", "_law_busy", "_law_found", "_law_left", "_law_name", "_law_many", "_law_minute", "_law_waiting", "_law_k", "_law_piece", "_law_machine", "_law_some", "_law_since", "_law_order", "_law_step"]) (sc := (defScope s__law_steps)) (by decide +kernel)) (fun _ _ _ _ _ => (pg_name (i := 3) sc__law_steps.nd rfl (by first | exact Or.inl rfl | exact Or.inr rfl))) (fun _ _ _ _ _ => pts_nil) (fun _ _ _ _ _ => (pe_tup (pa_cons (pe_ix (ixU al) (pv 3) pe_int (fun _ _ => rfl)) (pa_cons (pe_ix (ixU al) (pv 3) pe_int (fun _ _ => rfl)) pa_nil))))) pa_nil)) (pg_name (i := 2) sc__law_steps.nd rfl (by first | exact Or.inl rfl | exact Or.inr rfl))) (pss_cons (ps_par3 (i := 4) (j := 5) (l := 6) al.calm sc__law_steps.nd rfl rfl rfl (by decide) (by decide) (by decide) rfl rfl rfl (pa_cons (pe_op (opU al) (pe_lst (pa_cons pe_int pa_nil)) pe_int) (pa_cons (pe_lst pa_nil) (pa_cons (pe_callB (callU al) (by rfl) n_sum b_sum (pa_cons (pe_lc (own := [("_law_name", 7), ("_law_many", 8), ("_law_minute", 9)]) al.calm sc__law_steps.nd (pi_val al (pv 1)) (blkOk_by (own := [("_law_name", 7), ("_law_many", 8), ("_law_minute", 9)]) (N := ["_law_rows", "_law_orders_here", "_law_steps_here", "_law_row", "_law_busy", "_law_found", "_law_left", "_law_name", "_law_many", "_law_minute", "_law_waiting", "_law_k", "_law_piece", "_law_machine", "_law_some", "_law_since", "_law_order", "_law_step"]) (sc := (defScope s__law_steps)) (by decide +kernel)) (fun _ _ _ _ _ => (pg_tupU (n := 3) K (pgs_cons (pg_name (i := 7) sc__law_steps.nd rfl (by first | exact Or.inl rfl | exact Or.inr rfl)) (pgs_cons (pg_name (i := 8) sc__law_steps.nd rfl (by first | exact Or.inl rfl | exact Or.inr rfl)) (pgs_cons (pg_name (i := 9) sc__law_steps.nd rfl (by first | exact Or.inl rfl | exact Or.inr rfl)) pgs_nil))))) (fun _ _ _ _ _ => pts_nil) (fun _ _ _ _ _ => (pe_op (opU al) (pv 8) (pe_callB (callU al) (by rfl) n_len b_len (pa_cons (pe_ix (ixU al) (pv 2) (pv 7) (fun _ _ => rfl)) pa_nil))))) pa_nil)) pa_nil))) (by rfl)) (pss_cons (ps_asg (pe_lst pa_nil) (pg_name (i := 10) sc__law_steps.nd rfl (by first | exact Or.inl rfl | exact Or.inr rfl))) (pss_cons (ps_for PassesOwn.never rfl (pi_range1 (by rfl) n_range (pa_cons (pe_callB (callU al) (by rfl) n_len b_len (pa_cons (pv 1) pa_nil)) pa_nil)) (pg_name (i := 11) sc__law_steps.nd rfl (by first | exact Or.inl rfl | exact Or.inr rfl)) (pss_cons (ps_asg (pe_ix (ixU al) (pv 1) (pv 11) (fun _ _ => rfl)) (pg_tupU (n := 3) K (pgs_cons (pg_name (i := 7) sc__law_steps.nd rfl (by first | exact Or.inl rfl | exact Or.inr rfl)) (pgs_cons (pg_name (i := 8) sc__law_steps.nd rfl (by first | exact Or.inl rfl | exact Or.inr rfl)) (pgs_cons (pg_name (i := 9) sc__law_steps.nd rfl (by first | exact Or.inl rfl | exact Or.inr rfl)) pgs_nil))))) (pss_one (ps_asg (pe_op (opU al) (pv 10) (pe_lc (own := [("_law_piece", 12)]) al.calm sc__law_steps.nd (pi_range1 (by rfl) n_range (pa_cons (pv 8) pa_nil)) (blkOk_by (own := [("_law_piece", 12)]) (N := ["_law_rows", "_law_orders_here", "_law_steps_here", "_law_row", "_law_busy", "_law_found", "_law_left", "_law_name", "_law_many", "_law_minute", "_law_waiting", "_law_k", "_law_piece", "_law_machine", "_law_some", "_law_since", "_law_order", "_law_step"]) (sc := (defScope s__law_steps)) (by decide +kernel)) (fun _ _ _ _ _ => (pg_name (i := 12) sc__law_steps.nd rfl (by first | exact Or.inl rfl | exact Or.inr rfl))) (fun _ _ _ _ _ => pts_one (pt_cmpR (opU al) (pe_ix (ixU al) (pv 2) (pv 7) (fun _ _ => rfl)) (pe_tup pa_nil) (nomark _))) (fun _ _ _ _ _ => (pe_tup (pa_cons (pv 9) (pa_cons (pv 11) (pa_cons (pv 12) (pa_cons pe_int pa_nil)))))))) (pg_name (i := 10) sc__law_steps.nd rfl (by first | exact Or.inl rfl | exact Or.inr rfl)))))) (pss_cons (ps_asg pe_int (pg_name (i := 9) sc__law_steps.nd rfl (by first | exact Or.inl rfl | exact Or.inr rfl))) (pss_cons (ps_while PassesOwn.never (pt_cmpR (opU al) (pe_callB (callU al) (by rfl) n_len b_len (pa_cons (pv 5) pa_nil)) (pv 6) (nomark _)) (pss_cons (ps_for PassesOwn.never rfl (pi_range1 (by rfl) n_range (pa_cons pe_int pa_nil)) (pg_name (i := 13) sc__law_steps.nd rfl (by first | exact Or.inl rfl | exact Or.inr rfl)) (pss_cons (ps_setLc (i := 14) (own := [("_law_row", 3)]) al.calm sc__law_steps.nd rfl rfl (sw_true rfl rfl rfl (by decide +kernel)) (pi_val al (pv 10)) (blkOk_by (own := [("_law_row", 3)]) (N := ["_law_rows", "_law_orders_here", "_law_steps_here", "_law_row", "_law_busy", "_law_found", "_law_left", "_law_name", "_law_many", "_law_minute", "_law_waiting", "_law_k", "_law_piece", "_law_machine", "_law_some", "_law_since", "_law_order", "_law_step"]) (sc := (defScope s__law_steps)) (by decide +kernel)) (fun _ _ _ _ _ => (pg_name (i := 3) sc__law_steps.nd rfl (by first | exact Or.inl rfl | exact Or.inr rfl))) (fun _ _ _ _ _ => pts_one (PW.pt (pw_and (pt_cmpR (opU al) (pe_ix (ixU al) (pv 3) pe_int (fun _ _ => rfl)) (pv 9) (nomark _)) (pw_and1 (pt_cmpR (opU al) (pe_ix (ixU al) (pe_ix (ixU al) (pe_ix (ixU al) (pv 2) (pe_ix (ixU al) (pe_ix (ixU al) (pv 1) (pe_ix (ixU al) (pv 3) pe_int (fun _ _ => rfl)) (fun _ _ => rfl)) pe_int (fun _ _ => rfl)) (fun _ _ => rfl)) (pe_ix (ixU al) (pv 3) pe_int (fun _ _ => rfl)) (fun _ _ => rfl)) pe_int (fun _ _ => rfl)) (pv 13) (nomark _)))))) (fun _ _ _ _ _ => (pv 3))) (pss_one (ps_if (PW.pt (pw_and (pt_cmpR (opU al) (pe_ix (ixU al) (pv 4) (pv 13) (fun _ _ => rfl)) (pv 9) (nomark _)) (pw_and1 (pt_cmpR (opU al) (pv 14) (pe_lst pa_nil) (nomark _))))) (pss_cons (ps_asg (pe_callB (callU al) (by rfl) n_min b_min (pa_cons (pv 14) pa_nil)) (pg_tupU (n := 4) K (pgs_cons (pg_name (i := 15) sc__law_steps.nd rfl (by first | exact Or.inl rfl | exact Or.inr rfl)) (pgs_cons (pg_name (i := 16) sc__law_steps.nd rfl (by first | exact Or.inl rfl | exact Or.inr rfl)) (pgs_cons (pg_name (i := 12) sc__law_steps.nd rfl (by first | exact Or.inl rfl | exact Or.inr rfl)) (pgs_cons (pg_name (i := 17) sc__law_steps.nd rfl (by first | exact Or.inl rfl | exact Or.inr rfl)) pgs_nil)))))) (pss_cons (ps_expr (pe_bmU K PySem.F.plainAttrs_list PySem.F.slot_list_remove PySem.F.type_list_remove (metU al) (pv 10) (pa_cons (pe_callB (callU al) (by rfl) n_min b_min (pa_cons (pv 14) pa_nil)) pa_nil))) (pss_cons (ps_asg (pe_ix (ixU al) (pv 2) (pe_ix (ixU al) (pe_ix (ixU al) (pv 1) (pv 16) (fun _ _ => rfl)) pe_int (fun _ _ => rfl)) (fun _ _ => rfl)) (pg_name (i := 3) sc__law_steps.nd rfl (by first | exact Or.inl rfl | exact Or.inr rfl))) (pss_cons (ps_asg (pe_op (opU al) (pv 9) (pe_ix (ixU al) (pe_ix (ixU al) (pv 3) (pv 17) (fun _ _ => rfl)) pe_int (fun _ _ => rfl))) (pg_sub (pv 4) (pv 13) (setU al))) (pss_cons (ps_expr (pe_bmU K PySem.F.plainAttrs_list PySem.F.slot_list_append PySem.F.type_list_append (metU al) (pv 5) (pa_cons (pe_tup (pa_cons (pv 16) (pa_cons (pv 12) (pa_cons (pv 17) (pa_cons (pv 13) (pa_cons (pv 9) (pa_cons (pe_ix (ixU al) (pv 4) (pv 13) (fun _ _ => rfl)) pa_nil))))))) pa_nil))) (pss_one (ps_if (pt_cmpR (opU al) (pe_op (opU al) (pv 17) pe_int) (pe_callB (callU al) (by rfl) n_len b_len (pa_cons (pv 3) pa_nil)) (nomark _)) (pss_one (ps_expr (pe_bmU K PySem.F.plainAttrs_list PySem.F.slot_list_append PySem.F.type_list_append (metU al) (pv 10) (pa_cons (pe_tup (pa_cons (pe_ix (ixU al) (pv 4) (pv 13) (fun _ _ => rfl)) (pa_cons (pv 16) (pa_cons (pv 12) (pa_cons (pe_op (opU al) (pv 17) pe_int) pa_nil))))) pa_nil)))) pss_nil))))))) pss_nil)))) (pss_one (ps_asg (pe_op (opU al) (pv 9) pe_int) (pg_name (i := 9) sc__law_steps.nd rfl (by first | exact Or.inl rfl | exact Or.inr rfl)))))) (pss_one (ps_ret (pv 5))))))))), ?_⟩
    repeat tb_start
    refine lcPureL S0 hrows (fun _ => true) (fun r => .tuple [.str r.name, encSs r]) (by omega) ?_ ?_
    · rintro r x B7 D acc H7 C Cs hm e7 S7 hx kC kS
      repeat tb_start
      refine ⟨rfl, ?_⟩
      repeat tb_start
      refine v_ixDT (j := 0) S7 hx rfl rfl fun u hu => ?_
      obtain rfl := hu.str_inv
      repeat tb_start
      refine v_ixDT (j := 2) S7 hx rfl rfl fun u2 hu2 => ?_
      repeat tb_start
      refine new_tupD (K := K) S7 (ds := [.str r.name, encSs r]) (.cons (.str _) (.cons hu2 .nil)) (by show 2 ≤ 1000; decide) fun t B8 H8 e8 S8 ht => ?_
      exact kC _ _ _ rfl e8 S8 ht
    intro D1 acc1 B1 H1 e1 S1 hacc1
    rw [filter_tt] at hacc1
    repeat tb_start
    refine v_dictCol S1 hacc1 G.nd fun ds sk B2 H2 e2 hds cs2 S2 => ?_
    have hO2 := hO.up (e1.trans e2)
    clear S0 S1 hacc1
    repeat tb_start
    refine new_lst S2 (by decide) fun z H3 S3 => ?_
    repeat tb_start
    refine v_rep S3 (S3.own _ (.head _)).1 (by decide) (by decide) (by decide) fun bu H4 S4 => ?_
    replace S4 : Ok F0 B2 [(bu, .lst ((List.replicate 6 (0 : Int)).map V.int))] H4 := (S4.perm (.swap _ _ _)).drop
    clear S3
    repeat tb_start
    refine new_lst S4 (by decide) fun fo H5 S5 => ?_
    repeat tb_start
    refine lcPureL (enc := encOr) S5 hO2 (fun _ => true) (fun x => .int (x.2.1 * ((stepsN rs x.1).length : Int))) (by omega) ?_ ?_
    · intro y xv B6 D6 acc6 H6 C Cs hmem e6 S6 hv kC kS
      obtain ⟨rr, hrr⟩ := okA.part y hmem
      have hm9 := okA.many y hmem
      obtain ⟨ud, hud, hdd⟩ := cs2.get hrr
      have hst : stepsN rs y.1 = rr.steps := by
        unfold stepsN
        rw [hrr]
      have hl5 : (rr.steps.map encStep).length ≤ 5 := by
        obtain ⟨i, hi⟩ := List.getElem?_of_mem hmem
        have := hS5 i
        rw [stOf_row hi hrr] at this
        rw [List.length_map]
        exact this
      refine r_gtupD S6 hv rfl fun vs hvs => ?_
      obtain ⟨v1, _, rfl, h1, hvs⟩ := hvs.cons_inv
      obtain ⟨v2, _, rfl, h2, hvs⟩ := hvs.cons_inv
      obtain ⟨v3, _, rfl, h3, hvs⟩ := hvs.cons_inv
      obtain rfl := hvs.nil_inv
      obtain rfl := h1.str_inv
      obtain rfl := h2.int_inv
      obtain rfl := h3.int_inv
      repeat tb_start
      refine ⟨rfl, ?_⟩
      repeat tb_start
      refine v_ixDS (kvs := sk) (S6.rdStay (e6 _ _ hds)) hud ?_
      repeat tb_start
      refine kC _ _ _ rfl (Ex.refl _) S6 ?_
      rw [hst, ← List.length_map (f := encStep)]
      exact .int _
    intro D6 acc6 B6 H6 e6 S6 hacc6
    rw [filter_tt] at hacc6
    have hacc : acc6 = (os.map fun x => x.2.1 * ((stepsN rs x.1).length : Int)).map V.int := DpAll.ints (B := B6) (K := K) (by rw [List.map_map]; exact hacc6)
    subst hacc
    repeat tb_start
    refine v_sum (SqL.of (S6.own _ (.head _)).1) ?_
    rw [show (os.map fun x => x.2.1 * ((stepsN rs x.1).length : Int)).sum = (rows.length : Int) from hlrows.symm]
    have S7 := S6.drop
    clear S2 S4 S5 S6 hacc6
    repeat tb_start
    refine new_lst S7 (by decide) fun wa0 H8 S8 => ?_
    have hds8 := e6 _ _ hds
    have cs8 := cs2.up e6
    have hO8 := hO2.up e6
    repeat tb_start
    rw [List.length_map]
    refine rngQ (by omega) (by omega) ?_
    rw [Int.toNat_natCast]
    refine forDS src_rng S8 (fun i σ B1 L1 => ∃ (wa : Addr) (ws : List V), (∃ yy3 yy7 yy8 yy9 yy11 yy12 yy13 yy14 yy15 yy16 yy17, σ = [some (v), some (u), some (.ref ds), yy3, some (.ref bu), some (.ref fo), some (.int (rows.length : Int)), yy7, yy8, yy9, some (.ref wa), yy11, yy12, yy13, yy14, yy15, yy16, yy17]) ∧ L1 = [(wa, .lst ws), (fo, .lst []), (bu, .lst ((List.replicate 6 (0 : Int)).map V.int))] ∧ DpAll K B1 ws (((os.zipIdx.take i).flatMap (lawW rs)).map encCd) ∧ ws.length ≤ 5 * i) (fun _ _ _ _ _ _ => True.intro) ?_ ?_ ?_
    · exact ⟨wa0, [], ⟨_, _, _, _, _, _, _, _, _, _, _, rfl⟩, rfl, .nil, Nat.zero_le _⟩
    · rintro i' i xv σ B9 B10 L9 H10 hgeti ⟨wa, ws, ⟨_, _, _, _, _, _, _, _, _, _, _, rfl⟩, rfl, hws, hwl⟩ e9 e10 S10 rfl
      obtain ⟨rfl, hi⟩ := rng_at hgeti
      have hoy : os[i]? = some os[i] := List.getElem?_eq_getElem hi
      generalize os[i] = y at hoy
      have hmem := List.mem_of_getElem? hoy
      obtain ⟨rr, hrr⟩ := okA.part y hmem
      have hm9 := okA.many y hmem
      have hm55 := hm5 y hmem
      have hst : stepsN rs y.1 = rr.steps := by
        unfold stepsN
        rw [hrr]
      obtain ⟨ud, hud, hdd⟩ := cs8.get hrr
      have hz : os.zipIdx[i]? = some (y, i) := by rw [List.getElem?_zipIdx, hoy]; simp
      have htk : (os.zipIdx.take (i + 1)).flatMap (lawW rs) = (os.zipIdx.take i).flatMap (lawW rs) ++ lawW rs (y, i) := by
        rw [List.take_add_one, hz, List.flatMap_append]
        show _ ++ (lawW rs (y, i) ++ []) = _
        rw [List.append_nil]
      repeat tb_start
      refine v_ixDL (j := i) S10 (hO8.up (e9.trans e10)) rfl (by rw [List.getElem?_map, hoy]; rfl) fun uo huo => ?_
      refine r_gtupD S10 huo rfl fun vs hvs => ?_
      obtain ⟨v1, _, rfl, h1, hvs⟩ := hvs.cons_inv
      obtain ⟨v2, _, rfl, h2, hvs⟩ := hvs.cons_inv
      obtain ⟨v3, _, rfl, h3, hvs⟩ := hvs.cons_inv
      obtain rfl := hvs.nil_inv
      obtain rfl := h1.str_inv
      obtain rfl := h2.int_inv
      obtain rfl := h3.int_inv
      repeat tb_start
      refine rngQ (by omega) (by omega) ?_
      refine lcPure K src_rng S10 (fun _ _ _ _ => True.intro) (fun _ => !(stepsN rs y.1).isEmpty) (fun k => encCd (y.2.2, i, k, 0)) (by rw [List.length_range]; omega) ?_ ?_
      · rintro k xv B11 D11 acc H11 C Cs hk e11 S11 rfl kC kS
        repeat tb_start
        refine ⟨rfl, ?_⟩
        repeat tb_start
        refine v_ixDS (kvs := sk) (S11.rdStay (e11 _ _ (e10 _ _ (e9 _ _ hds8)))) hud ?_
        repeat tb_start
        refine new_tup S11 (by decide) fun T6 B6 H6 e6 hT6 S6 => ?_
        repeat tb_start
        refine v_neTNilD S6 (hdd.up (e9.trans (e10.trans (e11.trans e6)))) (S6.tqStay hT6) ?_
        have he : (rr.steps.map encStep).isEmpty = (stepsN rs y.1).isEmpty := by rw [hst]; cases rr.steps <;> rfl
        rw [he]
        cases hem : (stepsN rs y.1).isEmpty with
        | true =>
          repeat tb_start
          first | refine ifF rfl ?_ | skip
          exact kS _ _ (by rw [hem]; rfl) e6 S6
        | false =>
          repeat tb_start
          first | refine ifT rfl ?_ | skip
          repeat tb_start
          refine new_tupD (K := K) S6 (.cons (.int _) (.cons (.int _) (.cons (.int _) (.cons (.int _) .nil)))) (by show 4 ≤ 1000; decide) fun t11 B11 H11 e11 S11 ht11 => ?_
          exact kC _ _ _ (by rw [hem]; rfl) (e6.trans e11) S11 ht11
      intro D11 acc11 B11 H11 e11 S11 hacc11
      have hacc : ((List.range y.2.1.toNat).filter fun _ => !(stepsN rs y.1).isEmpty).map (fun k => encCd (y.2.2, i, k, 0)) = (lawW rs (y, i)).map encCd := by
        unfold lawW
        cases (stepsN rs y.1).isEmpty with
        | true =>
          rw [if_pos rfl]
          have : (List.range y.2.1.toNat).filter (fun _ => !true) = [] := List.filter_eq_nil_iff.mpr fun _ _ => by decide
          rw [this]
          rfl
        | false =>
          rw [if_neg (by decide)]
          have : (List.range y.2.1.toNat).filter (fun _ => !false) = List.range y.2.1.toNat := List.filter_eq_self.mpr fun _ _ => rfl
          rw [this, List.map_map]
          rfl
      rw [hacc] at hacc11
      have hal : acc11.length ≤ 5 := by
        rw [hacc11.length, List.length_map]
        unfold lawW
        split
        · exact Nat.zero_le _
        · rw [List.length_map, List.length_range]
          show y.2.1.toNat ≤ 5
          omega
      repeat tb_start
      refine v_cat S11 (S11.own _ (.tail _ (.head _))).1 (S11.own _ (.head _)).1 (by rw [sizeLine_eq]; omega) fun w2 H12 S12 => ?_
      have S12b : Ok F0 B11 [(D11, .lst acc11), (wa, .lst ws), (w2, .lst (ws ++ acc11)), (fo, .lst []), (bu, .lst ((List.replicate 6 (0 : Int)).map V.int))] H12 := S12.permI [[(w2, .lst (ws ++ acc11))], [(D11, .lst acc11)], [(wa, .lst ws)], [(fo, .lst []), (bu, .lst ((List.replicate 6 (0 : Int)).map V.int))]] [1, 2, 0, 3]
      have S13 := S12b.drop.drop
      repeat tb_start
      refine NxE.mk' S13 (e9.trans (e10.trans e11)) ⟨w2, ws ++ acc11, ⟨_, _, _, _, _, _, _, _, _, _, _, rfl⟩, rfl, ?_, ?_⟩
      · rw [htk, List.map_append]
        exact (hws.up (e10.trans e11)).append hacc11
      · rw [List.length_append]
        omega
    · rintro σ B9 L9 H9 ⟨wa, ws, ⟨_, _, _, _, _, _, _, _, _, _, _, rfl⟩, rfl, hws, hwl⟩ e9 S9
      have htl : os.zipIdx.take (List.range os.length).length = os.zipIdx := by rw [List.length_range, ← List.length_zipIdx (l := os) (i := 0), List.take_length]
      rw [htl] at hws
      have e69 : Ex B2 B9 := e6.trans e9
      have hds9 := e69 _ _ hds
      have cs9 := cs2.up e69
      have hO9 := hO2.up e69
      repeat tb_start
      refine ⟨LawSt K F0 B9 v u ds bu fo wa rs os rows T, ⟨_, 0, ⟨lawS rs os, List.replicate 6 0, []⟩, startQ (stOf rs os) os, ws, [], B9, ⟨_, _, _, _, _, _, _, _, _, _, rfl⟩, S9, Ex.refl _, hws, .nil, LRel.lstart G hrun, rfl⟩, ?_⟩
      clear S7 S8 S9 hws hwl hds8 cs8 hO8
      rintro m0 σ H10 ⟨t, x, q, ws, fs, B10, ⟨_, _, _, _, _, _, _, _, _, _, rfl⟩, S10, e10, hws, hfs, R, hTm⟩
      have hfl : fs.length = x.found.length := by rw [hfs.length, List.length_map]
      have hfle := R.found_le
      repeat tb_start
      rw [hfl]
      refine ifd (fun hh => ?_) (fun hh => ?_)
      · obtain ⟨rl, hrlm, hrlb⟩ := R.lleft (by omega)
        have hTr := hT rl hrlm
        refine ⟨fun σ' H' => ∃ m', m' < m0 ∧ LawSt K F0 B9 v u ds bu fo wa rs os rows T m' σ' H', fun _ _ h => h, ?_⟩
        repeat tb_start
        refine rngQ (by decide) (by decide) ?_
        refine forDS src_rng S10 (fun i σ B1 L1 => ∃ (x : Lw) (q : Mq) (ws fs : List V), (∃ yy3 yy7 yy8 yy11 yy12 yy13 yy14 yy15 yy16 yy17, σ = [some (v), some (u), some (.ref ds), yy3, some (.ref bu), some (.ref fo), some (.int (rows.length : Int)), yy7, yy8, some (.int t), some (.ref wa), yy11, yy12, yy13, yy14, yy15, yy16, yy17]) ∧ L1 = [(wa, .lst ws), (fo, .lst fs), (bu, .lst (x.busy.map V.int))] ∧ DpAll K B1 ws (x.wt.map encCd) ∧ DpAll K B1 fs (x.found.map encWr) ∧ LRel (stOf rs os) os.length rows t i x q) (fun _ _ _ _ _ _ => True.intro) ?_ ?_ ?_
        · exact ⟨x, q, ws, fs, ⟨_, _, _, _, _, _, _, _, _, _, rfl⟩, rfl, hws, hfs, R⟩
        · clear R hfs hws hfl hfle S10
          rintro i' i xv σ B11 B12 L11 H12 hgeti ⟨x, q, ws, fs, ⟨_, _, _, _, _, _, _, _, _, _, rfl⟩, rfl, hws, hfs, R⟩ e11 e12 S12 rfl
          obtain ⟨rfl, hi⟩ := rng_at hgeti
          have hi6 : i < 6 := hi
          obtain ⟨q', R'⟩ := R.lmstep hS hS1 hi6
          have hfle := R.found_le
          have hfl : fs.length = x.found.length := by rw [hfs.length, List.length_map]
          have hds12 := e12 _ _ (e11 _ _ (e10 _ _ hds9))
          have cs12 := cs9.up (e10.trans (e11.trans e12))
          have hO12 := hO9.up (e10.trans (e11.trans e12))
          have hws12 := hws.up e12
          have hfs12 := hfs.up e12
          have hbl : x.busy.length = 6 := by rw [R.busy]; exact R.ok.f6
          have hwt : x.wt.length ≤ 150 := by
            have := R.lfew hS
            omega
          have hknow : ∀ y ∈ x.wt, ∃ (oy : Or) (rr : PRow) (mm : Nat) (mi : Int), os[y.2.1]? = some oy ∧ PM.rowOf rs oy.1 = some rr ∧ rr.steps[y.2.2.2]? = some ((mm : Int), mi) ∧ stOf rs os y.2.1 = rr.steps := by
            intro y hy
            obtain ⟨m1, w1, z, hw1, hz, rfl⟩ := mem_liftW.mp (R.perm.mem_iff.mp hy)
            obtain ⟨hn, mi, hSm⟩ := R.ok.it m1 w1 z hw1 hz
            have hoy : os[z.2.1]? = some os[z.2.1] := List.getElem?_eq_getElem hn
            obtain ⟨rr, hrr⟩ := okA.part _ (List.mem_of_getElem? hoy)
            have h1 := stOf_row hoy hrr
            rw [h1] at hSm
            exact ⟨_, rr, m1, mi, hoy, hrr, hSm, h1⟩
          clear R hfs hws
          repeat tb_start
          refine ItU.list (S12.sqMem (.head _)) (lcPure K (src_lst (xs := ws) (as := x.wt) (enc := encCd)) S12 (fun B1 D acc e => ⟨.inr (.tail _ (.head _)), hws12.up e⟩) (hereB (stOf rs os) t i) encCd (by omega) ?_ ?_)
          · intro y xv B13 D13 acc13 H13 C Cs hmem e13 S13 hv kC kS
            obtain ⟨oy, rr, mm, mi, hoy, hrr, hstp, hsto⟩ := hknow y hmem
            obtain ⟨ud, hud, hdd⟩ := cs12.get hrr
            have hcond : hereB (stOf rs os) t i y = decide (y.1 ≤ t ∧ (mm : Int) = (i : Int)) := by
              unfold hereB
              rw [hsto, hstp]
              rfl
            repeat tb_start
            refine ⟨rfl, ?_⟩
            repeat tb_start
            refine v_ixDT (j := 0) S13 hv rfl rfl fun u0 hu0 => ?_
            obtain rfl := hu0.int_inv
            repeat tb_start
            refine ifd (fun hh1 => ?_) (fun hh1 => ?_)
            · repeat tb_start
              refine v_ixDT (j := 1) S13 hv rfl rfl fun u1 hu1 => ?_
              obtain rfl := hu1.int_inv
              refine v_ixDL (j := y.2.1) S13 (hO12.up e13) rfl (by rw [List.getElem?_map, hoy]; rfl) fun uo huo => ?_
              repeat tb_start
              refine v_ixDT (j := 0) S13 huo rfl rfl fun un hun => ?_
              obtain rfl := hun.str_inv
              repeat tb_start
              refine v_ixDS (kvs := sk) (S13.rdStay (e13 _ _ hds12)) hud ?_
              repeat tb_start
              refine v_ixDT (j := 3) S13 hv rfl rfl fun u3 hu3 => ?_
              obtain rfl := hu3.int_inv
              refine v_ixDT (j := y.2.2.2) S13 (hdd.up e13) rfl (by rw [List.getElem?_map, hstp]; rfl) fun us hus => ?_
              repeat tb_start
              refine v_ixDT (j := 0) S13 hus rfl rfl fun um hum => ?_
              obtain rfl := hum.int_inv
              repeat tb_start
              refine ifd (fun hh2 => ?_) (fun hh2 => ?_)
              · repeat tb_start
                exact kC _ _ _ (by rw [hcond]; exact decide_eq_true ⟨hh1, hh2⟩) (Ex.refl _) S13 hv
              · exact kS _ _ (by rw [hcond]; exact decide_eq_false (fun z => hh2 z.2)) (Ex.refl _) S13
            · exact kS _ _ (by rw [hcond]; exact decide_eq_false (fun z => hh1 z.1)) (Ex.refl _) S13
          intro D13 acc13 B13 H13 e13 S13 hacc13
          have hbg := getD_ints (l := x.busy) (i := i) (by omega)
          repeat tb_start
          refine v_ixL (SqL.of (S13.own _ (.tail _ (.tail _ (.tail _ (.head _))))).1) (atI_nat hbg) ?_
          repeat tb_start
          refine ifd (fun hb => ?_) (fun hb => ?_)
          · repeat tb_start
            refine new_lst S13 (by decide) fun z14 H14 S14 => ?_
            refine v_neNilL (SqL.of (S14.own _ (.tail _ (.head _))).1) (SqL.of (S14.own _ (.head _)).1) ?_
            have S15 := S14.drop
            have hal : acc13.length = (x.wt.filter (hereB (stOf rs os) t i)).length := by rw [hacc13.length, List.length_map]
            rw [hal]
            cases hmn : minO ltCd (x.wt.filter (hereB (stOf rs os) t i)) with
            | none =>
              have hl0 : (x.wt.filter (hereB (stOf rs os) t i)).length = 0 := by rw [minO_none hmn]; rfl
              have hms := mstep_none hmn
              repeat tb_start
              first | refine ifF rfl ?_ | skip
              repeat tb_start
              refine NxE.mk' S15.drop (e11.trans (e12.trans e13)) ⟨x, q', ws, fs, ⟨_, _, _, _, _, _, _, _, _, _, rfl⟩, rfl, hws12.up e13, hfs12.up e13, by rw [← hms]; exact R'⟩
            | some r =>
              have hrm : r ∈ x.wt := (List.mem_filter.mp (minO_mem hmn)).1
              have hl0 : ¬ (x.wt.filter (hereB (stOf rs os) t i)).length = 0 := fun z => by
                rw [List.length_eq_zero_iff.mp z] at hmn
                cases hmn
              have hms := mstep_some hb hmn
              obtain ⟨oy, rr, mm, mi, hoy, hrr, hstp, hsto⟩ := hknow r hrm
              obtain ⟨ud, hud, hdd⟩ := cs12.get hrr
              have hgd : ((stOf rs os r.2.1)[r.2.2.2]?.getD (0, 0)).2 = mi := by rw [hsto, hstp]; rfl
              rw [hgd, hsto] at hms
              generalize x.mstep (stOf rs os) t i = x' at hms R'
              have hO13 := hO12.up e13
              have cs13 := hdd.up e13
              have hds13 := e13 _ _ hds12
              repeat tb_start
              first | refine ifT rfl ?_ | skip
              repeat tb_start
              refine v_minA lt_encCd alike_Cd depth_Cd S15 (S15.own _ (.head _)).1 hacc13 hmn fun mv hmv => ?_
              refine r_gtupD S15 hmv rfl fun vs hvs => ?_
              obtain ⟨v1, _, rfl, h1, hvs⟩ := hvs.cons_inv
              obtain ⟨v2, _, rfl, h2, hvs⟩ := hvs.cons_inv
              obtain ⟨v3, _, rfl, h3, hvs⟩ := hvs.cons_inv
              obtain ⟨v4, _, rfl, h4, hvs⟩ := hvs.cons_inv
              obtain rfl := hvs.nil_inv
              obtain rfl := h1.int_inv
              obtain rfl := h2.int_inv
              obtain rfl := h3.int_inv
              obtain rfl := h4.int_inv
              repeat tb_start
              refine v_minA lt_encCd alike_Cd depth_Cd S15 (S15.own _ (.head _)).1 hacc13 hmn fun mv2 hmv2 => ?_
              repeat tb_start
              refine v_remA eqv_Cd plain_Cd depth_Cd 1 S15 rfl (hws12.up e13) hmv2 hrm fun ys H16 hys S16 => ?_
              replace S16 : Ok F0 B13 [(D13, .lst acc13), (wa, .lst ys), (fo, .lst fs), (bu, .lst (x.busy.map V.int))] H16 := S16
              have S17 := S16.drop
              clear S12 S13 S14 S15 S16 hacc13
              repeat tb_start
              refine v_ixDL (j := r.2.1) S17 hO13 rfl (by rw [List.getElem?_map, hoy]; rfl) fun uo huo => ?_
              repeat tb_start
              refine v_ixDT (j := 0) S17 huo rfl rfl fun un hun => ?_
              obtain rfl := hun.str_inv
              repeat tb_start
              refine v_ixDS (kvs := sk) (S17.rdStay hds13) hud ?_
              repeat tb_start
              refine v_ixDT (j := r.2.2.2) S17 cs13 rfl (by rw [List.getElem?_map, hstp]; rfl) fun us hus => ?_
              repeat tb_start
              refine v_ixDT (j := 1) S17 hus rfl rfl fun um hum => ?_
              obtain rfl := hum.int_inv
              repeat tb_start
              refine v_setLN 2 S17 rfl (j := i) (ixN_of rfl (by rw [List.length_map]; omega)) fun H18 S18 => ?_
              rw [set_ints] at S18
              replace S18 : Ok F0 B13 [(wa, .lst ys), (fo, .lst fs), (bu, .lst ((x.busy.set i (t + mi)).map V.int))] H18 := S18
              have hbg2 : ((x.busy.set i (t + mi)).map V.int)[i]? = some (.int (t + mi)) := by
                rw [List.getElem?_map, List.getElem?_set_self (by omega)]
                rfl
              repeat tb_start
              refine v_ixL (SqL.of (S18.own _ (.tail _ (.tail _ (.head _)))).1) (atI_nat hbg2) ?_
              repeat tb_start
              refine new_tupD (K := K) S18 (.cons (.int _) (.cons (.int _) (.cons (.int _) (.cons (.int _) (.cons (.int _) (.cons (.int _) .nil)))))) (by show 6 ≤ 1000; decide) fun t19 B19 H19 e19 S19 ht19 => ?_
              repeat tb_start
              refine v_appendN 1 S19 rfl (by rw [hfl, sizeLine_eq]; omega) fun H20 S20 => ?_
              replace S20 : Ok F0 B19 [(wa, .lst ys), (fo, .lst (fs ++ [.ref t19])), (bu, .lst ((x.busy.set i (t + mi)).map V.int))] H20 := S20
              have hfs20 : DpAll K B19 (fs ++ [.ref t19]) ((x.found ++ [(⟨r.2.1, r.2.2.1, r.2.2.2, i, t, t + mi⟩ : Wr)]).map encWr) := by
                rw [List.map_append]
                exact (hfs12.up (e13.trans e19)).snoc ht19
              have hyl : ys.length ≤ 150 := by
                rw [hys.length, List.length_map]
                have := (List.erase_sublist (a := r) (l := x.wt)).length_le
                omega
              repeat tb_start
              rw [List.length_map]
              refine ifd (fun hlt => ?_) (fun hlt => ?_)
              · rw [if_pos (by omega)] at hms
                subst hms
                repeat tb_start
                refine v_ixL (SqL.of (S20.own _ (.tail _ (.tail _ (.head _)))).1) (atI_nat hbg2) ?_
                repeat tb_start
                refine new_tupD (K := K) S20 (.cons (.int _) (.cons (.int _) (.cons (.int _) (.cons (.int _) .nil)))) (by show 4 ≤ 1000; decide) fun t21 B21 H21 e21 S21 ht21 => ?_
                repeat tb_start
                refine v_appendN 0 S21 rfl (by rw [sizeLine_eq]; omega) fun H22 S22 => ?_
                repeat tb_start
                refine NxE.mk' S22 (e11.trans (e12.trans (e13.trans (e19.trans e21)))) ⟨_, q', ys ++ [.ref t21], fs ++ [.ref t19], ⟨_, _, _, _, _, _, _, _, _, _, rfl⟩, rfl, ?_, hfs20.up e21, R'⟩
                rw [List.map_append]
                exact (hys.up (e19.trans e21)).snoc ht21
              · rw [if_neg (by omega), List.append_nil] at hms
                subst hms
                repeat tb_start
                exact NxE.mk' S20 (e11.trans (e12.trans (e13.trans e19))) ⟨_, q', ys, fs ++ [.ref t19], ⟨_, _, _, _, _, _, _, _, _, _, rfl⟩, rfl, hys.up e19, hfs20, R'⟩
          · have hms := mstep_busy (S := stOf rs os) hb
            repeat tb_start
            first | refine ifF rfl ?_ | skip
            repeat tb_start
            refine NxE.mk' S13.drop (e11.trans (e12.trans e13)) ⟨x, q', ws, fs, ⟨_, _, _, _, _, _, _, _, _, _, rfl⟩, rfl, hws12.up e13, hfs12.up e13, by rw [← hms]; exact R'⟩
        · rintro σ B11 L11 H11 ⟨x, q, ws, fs, ⟨_, _, _, _, _, _, _, _, _, _, rfl⟩, rfl, hws, hfs, R⟩ e11 S11
          repeat tb_start
          exact ⟨_, by omega, t + 1, x, q, ws, fs, B11, ⟨_, _, _, _, _, _, _, _, _, _, rfl⟩, S11, e10.trans e11, hws, hfs, R.lturn, rfl⟩
      · have hdone := R.ldone (by omega)
        rw [hdone] at hfs
        repeat tb_start
        obtain ⟨B11, e11, S11, hD⟩ := (Ok.permI (L := [(wa, .lst ws), (fo, .lst fs), (bu, .lst (x.busy.map V.int))]) (L' := [(wa, .lst ws), (bu, .lst (x.busy.map V.int)), (fo, .lst fs)]) S10 [[(wa, .lst ws)], [(fo, .lst fs)], [(bu, .lst (x.busy.map V.int))]] [0, 2, 1]).drop.drop.toData hfs
        exact kend fo rows B11 H10 (e1.trans (e2.trans (e69.trans (e10.trans e11)))) S11 hD hrun
end
end LW

namespace LW
open PySem PySem.Spec PyProof.Rows L2 WK PM
local macro_rules | `(tactic| kpr_short) => `(tactic| simp only [List.flatten_cons, List.flatten_nil, List.map_cons, List.map_nil, List.getD_cons_zero, List.getD_cons_succ, List.append_nil, List.append_assoc, List.cons_append, List.nil_append])
abbrev s_law : Stmt := topS 36
theorem sc_law : FnScope ["_law_script", "_law_h", "_law_turn", "_law_rows", "_law_orders_here", "_law_due", "_law_last", "_law_row", "_law_k", "_law_minutes", "_law_machine"] ["_law_script"] (defScope s_law) := ⟨rfl, rfl, rfl, by decide +kernel, rfl, by decide +kernel, by decide +kernel⟩
def spLaw (K : PySem.W.Frag) : Sp := fun vs H Q _ => ∃ (a : Addr) (ns : List Int), vs = [.ref a] ∧ SqL K H a (ns.map V.int) ∧ ns.length ≤ 63 ∧ ∀ H', Q (.bl true) H'
section
variable {P : Program} {w : World} {K : PySem.W.Frag} {mg : Str → Option Value} {base : Heap}
theorem ok_law {f : Addr} {fd : FuncData} (F : Fun K "law" "law" s_law f fd) (G__law_mix : FnG P w K mg base 1 "_law_mix" ["_law_script", "_law_seed"] (spMix K)) (G__law_parts : FnG P w K mg base 14 "_law_parts" ["_law_h", "_law_most"] (spLParts K)) (G__law_orders : FnG P w K mg base 2 "_law_orders" ["_law_h", "_law_rows", "_law_most"] (spLOrders K)) (G__law_steps : FnG P w K mg base 1 "_law_steps" ["_law_rows", "_law_orders_here"] (spLSteps K)) (G_worked : FnG P w K mg base 5 "worked" ["parts", "orders"] (spWorked K)) (G_ends : FnG P w K mg base 6 "ends" ["parts", "orders"] (spEnds K)) (G_used : FnG P w K mg base 6 "used" ["parts", "orders"] (spUsed K)) (G__law_alike : FnG P w K mg base 4 "_law_alike" ["_law_found", "_law_due"] (spAl K 4))
    (n_range : mg "range" = none) (n_len : mg "len" = none) (n_max : mg "max" = none) (n_sum : mg "sum" = none) : FnOk P w K mg base CX0 15 f fd ["_law_script"] (spLaw K) := by
  refine F.ok sc_law (fun vs H Q E h => ?_) (fun cdv Ar outer s H vs Q E hr h => ?_)
  · obtain ⟨a, ns, rfl, _⟩ := h
    rfl
  · obtain ⟨a, ns, rfl, hq0, hlen, kend⟩ := h
    have S := Ok.start0 (Ex.refl H)
    generalize hFe : (⟨H, H, []⟩ : Ent) = F0 at S
    refine with_al (P := P) (w := w) (K := K) hr (fun al => ?_)
    refine ⟨_, (pss_cons (ps_asg (pe_fn G__law_mix (hr.mono (by first | decide | omega)) rfl (pa_cons (pv 0) (pa_cons pe_int pa_nil))) (pg_name (i := 1) sc_law.nd rfl (by first | exact Or.inl rfl | exact Or.inr rfl))) (pss_cons (ps_for PassesOwn.never rfl (pi_range1 (by rfl) n_range (pa_cons pe_int pa_nil)) (pg_name (i := 2) sc_law.nd rfl (by first | exact Or.inl rfl | exact Or.inr rfl)) (pss_cons (ps_asg (pe_fn G__law_parts (hr.mono (by first | decide | omega)) rfl (pa_cons (pv 1) (pa_cons pe_int pa_nil))) (pg_name (i := 3) sc_law.nd rfl (by first | exact Or.inl rfl | exact Or.inr rfl))) (pss_cons (ps_asg (pe_fn G__law_orders (hr.mono (by first | decide | omega)) rfl (pa_cons (pv 1) (pa_cons (pv 3) (pa_cons pe_int pa_nil)))) (pg_name (i := 4) sc_law.nd rfl (by first | exact Or.inl rfl | exact Or.inr rfl))) (pss_cons (ps_asg (pe_fn G__law_steps (hr.mono (by first | decide | omega)) rfl (pa_cons (pv 3) (pa_cons (pv 4) pa_nil))) (pg_name (i := 5) sc_law.nd rfl (by first | exact Or.inl rfl | exact Or.inr rfl))) (pss_cons (ps_if (pt_not (pt_val (pe_fn G__law_alike (hr.mono (by first | decide | omega)) rfl (pa_cons (pe_fn G_worked (hr.mono (by first | decide | omega)) rfl (pa_cons (pv 3) (pa_cons (pv 4) pa_nil))) (pa_cons (pv 5) pa_nil))))) (pss_one (ps_ret pe_bl)) pss_nil) (pss_cons (ps_setLc (i := 6) (own := [("_law_k", 8)]) al.calm sc_law.nd rfl rfl (sw_true rfl rfl rfl (by decide +kernel)) (pi_range1 (by rfl) n_range (pa_cons (pe_callB (callU al) (by rfl) n_len b_len (pa_cons (pv 4) pa_nil)) pa_nil)) (blkOk_by (own := [("_law_k", 8)]) (N := ["_law_script", "_law_h", "_law_turn", "_law_rows", "_law_orders_here", "_law_due", "_law_last", "_law_row", "_law_k", "_law_minutes", "_law_machine"]) (sc := (defScope s_law)) (by decide +kernel)) (fun _ _ _ _ _ => (pg_name (i := 8) sc_law.nd rfl (by first | exact Or.inl rfl | exact Or.inr rfl))) (fun _ _ _ _ _ => pts_nil) (fun _ _ _ _ _ => (pe_callB (callU al) (by rfl) n_max b_max (pa_cons (pe_op (opU al) (pe_lc (own := [("_law_row", 7)]) al.calm sc_law.nd (pi_val al (pv 5)) (blkOk_in (own := [("_law_row", 7)]) (N := ["_law_script", "_law_h", "_law_turn", "_law_rows", "_law_orders_here", "_law_due", "_law_last", "_law_row", "_law_k", "_law_minutes", "_law_machine"]) (by decide +kernel)) (fun _ _ _ _ _ => (pg_name (i := 7) sc_law.nd rfl (by first | exact Or.inl rfl | exact Or.inr rfl))) (fun _ _ _ _ _ => pts_one (pt_cmpR (opU al) (pe_ix (ixU al) (pv 7) pe_int (fun _ _ => rfl)) (pv 8) (nomark _))) (fun _ _ _ _ _ => (pe_ix (ixU al) (pv 7) pe_int (fun _ _ => rfl)))) (pe_lst (pa_cons (pe_ix (ixU al) (pe_ix (ixU al) (pv 4) (pv 8) (fun _ _ => rfl)) pe_int (fun _ _ => rfl)) pa_nil))) pa_nil)))) (pss_cons (ps_if (pt_not (pt_val (pe_fn G__law_alike (hr.mono (by first | decide | omega)) rfl (pa_cons (pe_fn G_ends (hr.mono (by first | decide | omega)) rfl (pa_cons (pv 3) (pa_cons (pv 4) pa_nil))) (pa_cons (pv 6) pa_nil))))) (pss_one (ps_ret pe_bl)) pss_nil) (pss_cons (ps_setLc (i := 9) (own := [("_law_machine", 10)]) al.calm sc_law.nd rfl rfl (sw_true rfl rfl rfl (by decide +kernel)) (pi_range1 (by rfl) n_range (pa_cons pe_int pa_nil)) (blkOk_by (own := [("_law_machine", 10)]) (N := ["_law_script", "_law_h", "_law_turn", "_law_rows", "_law_orders_here", "_law_due", "_law_last", "_law_row", "_law_k", "_law_minutes", "_law_machine"]) (sc := (defScope s_law)) (by decide +kernel)) (fun _ _ _ _ _ => (pg_name (i := 10) sc_law.nd rfl (by first | exact Or.inl rfl | exact Or.inr rfl))) (fun _ _ _ _ _ => pts_nil) (fun _ _ _ _ _ => (pe_callB (callU al) (by rfl) n_sum b_sum (pa_cons (pe_lc (own := [("_law_row", 7)]) al.calm sc_law.nd (pi_val al (pv 5)) (blkOk_in (own := [("_law_row", 7)]) (N := ["_law_script", "_law_h", "_law_turn", "_law_rows", "_law_orders_here", "_law_due", "_law_last", "_law_row", "_law_k", "_law_minutes", "_law_machine"]) (by decide +kernel)) (fun _ _ _ _ _ => (pg_name (i := 7) sc_law.nd rfl (by first | exact Or.inl rfl | exact Or.inr rfl))) (fun _ _ _ _ _ => pts_one (pt_cmpR (opU al) (pe_ix (ixU al) (pv 7) pe_int (fun _ _ => rfl)) (pv 10) (nomark _))) (fun _ _ _ _ _ => (pe_op (opU al) (pe_ix (ixU al) (pv 7) pe_int (fun _ _ => rfl)) (pe_ix (ixU al) (pv 7) pe_int (fun _ _ => rfl))))) pa_nil)))) (pss_one (ps_if (pt_not (pt_val (pe_fn G__law_alike (hr.mono (by first | decide | omega)) rfl (pa_cons (pe_fn G_used (hr.mono (by first | decide | omega)) rfl (pa_cons (pv 3) (pa_cons (pv 4) pa_nil))) (pa_cons (pv 9) pa_nil))))) (pss_one (ps_ret pe_bl)) pss_nil)))))))))) (pss_one (ps_ret pe_bl)))), ?_⟩
    repeat tb_start
    refine ⟨H, a, ns, 71, rfl, S.ex, hq0, hlen, by decide, by decide, fun m p q B1 H1 _ _ T1 => ?_⟩
    have S1 := S.callN T1
    repeat tb_start
    refine rngQ (by decide) (by decide) ?_
    refine forDS src_range (S1 : Ok F0 B1 (hL p q m ns 0 ++ []) H1) (fun i σ B1 L1 => (∃ yy2 yy3 yy4 yy5 yy6 yy7 yy8 yy9 yy10, σ = [some (.ref a), some (.ref p), yy2, yy3, yy4, yy5, yy6, yy7, yy8, yy9, yy10]) ∧ ∃ m cs kk, HS cs kk ∧ L1 = hL p q m cs kk ++ []) (fun _ _ _ _ _ _ => True.intro) ?_ ?_ ?_
    · exact ⟨⟨_, _, _, _, _, _, _, _, _, rfl⟩, _, _, _, ⟨hlen, by decide⟩, rfl⟩
    · rintro i i2 x σ B0 B2 L1 H2 hget ⟨⟨_, _, _, _, _, _, _, _, _, rfl⟩, m, cs, kk, hS, rfl⟩ e1 e2 S2 rfl
      repeat tb_start
      refine ⟨B2, p, q, m, cs, kk, 6, rfl, by decide, by decide, S2.sub (L1 := hL p q m cs kk), hS, fun r rs m3 cs3 kk3 B3 H3 e3 My hfst hne hlen6 hrows hS3 T3 => ?_⟩
      have S3 : Ok F0 B3 (hL p q m3 cs3 kk3 ++ []) H3 := S2.call (L1 := hL p q m cs kk) T3
      have G := My.good
      clear S2 T3
      repeat tb_start
      refine ⟨B3, p, q, m3, cs3, kk3, r, rs, rfl, S3.sub (L1 := hL p q m3 cs3 kk3), hS3, hrows, hne, by omega, fun lo os t m4 cs4 kk4 B4 H4 e4 T4 hS4 hO hob hol ht0 ht1 => ?_⟩
      have S4 : Ok F0 B4 (hL p q m4 cs4 kk4 ++ []) H4 := S3.call (L1 := hL p q m3 cs3 kk3) T4
      clear S3 T4
      have okA : OrsOk rs os := hob.ok (by decide) (by omega) (by omega)
      have hrows4 := hrows.up e4
      repeat tb_start
      refine ⟨B4, r, .ref lo, rs, os, rfl, S4.ex, hrows4, hO, G, by omega, okA, (fun x hx => (hob.many x hx).2), hol, fun D5 rows B5 H5 e5 T5 hD5 hrun => ?_⟩
      have S5 := S4.callP T5
      clear S4 T5
      have hl150 := worked_len G (k := 5) (fun x hx => (hob.many x hx).2) hrun
      have hin := worked_in G hrun
      repeat tb_start
      refine ⟨B5, r, .ref lo, rs, os, rfl, S5.ex, .inl (hrows4.up e5), hO.up e5, G, okA, fun D6 xs6 rows6 B6 H6 e6 T6 hxs6 hrun6 => ?_⟩
      obtain ⟨B7, e7, S7, hD7⟩ := (S5.callN T6).toData hxs6
      obtain rfl := hrun6.det hrun
      clear S5 T6
      have hD57 := hD5.up (e6.trans e7)
      repeat tb_start
      refine ⟨B7, .ref D6, .ref D5, .list (rows6.map encWr), rfl, S7.ex, hD7, hD57, ?_, fun B8 H8 T8 => ?_⟩
      · exact alWr _ (by omega) 1
      have S8 := S7.callP T8
      have e78 := T8.ex0
      clear S7 T8 hD7
      have e58 := e6.trans (e7.trans e78)
      have hO8 := (hO.up e5).up e58
      have hrows8 := (hrows4.up e5).up e58
      have hD8 := hD57.up e78
      repeat tb_start
      rw [List.length_map]
      refine rngQ (by omega) (by omega) ?_
      rw [Int.toNat_natCast]
      refine lcPure K src_rng S8 (fun _ _ _ _ => True.intro) (fun _ => true) (fun k => .int ((endsOf os rows6).getD k 0)) (by rw [List.length_range]; omega) ?_ ?_
      · rintro k xv B9 D9 acc9 H9 C Cs hk e9 S9 rfl kC kS
        have hk' := List.mem_range.mp hk
        have hoy : os[k]? = some os[k] := List.getElem?_eq_getElem hk'
        generalize os[k] = y at hoy
        repeat tb_start
        refine ⟨rfl, ?_⟩
        repeat tb_start
        refine lcPureL (enc := encWr) S9 (hD8.up e9) (fun r => decide (r.o = k)) (fun r => .int r.e) (by omega) ?_ ?_
        · intro z zv B10 D10 acc10 H10 C2 Cs2 hmem e10 S10 hv kC2 kS2
          repeat tb_start
          refine ⟨rfl, ?_⟩
          repeat tb_start
          refine v_ixDT (j := 0) S10 hv rfl rfl fun u hu => ?_
          obtain rfl := hu.int_inv
          repeat tb_start
          refine ifd (fun hh => ?_) (fun hh => ?_)
          · repeat tb_start
            refine v_ixDT (j := 5) S10 hv rfl rfl fun u hu => ?_
            exact kC2 _ _ _ (decide_eq_true (by omega)) (Ex.refl _) S10 hu
          · exact kS2 _ _ (decide_eq_false (by omega)) (Ex.refl _) S10
        intro D10 acc10 B10 H10 e10 S10 hacc10
        have hacc : acc10 = ((rows6.filter fun r => decide (r.o = k)).map (·.e)).map V.int := DpAll.ints (B := B10) (K := K) (by rw [List.map_map]; exact hacc10)
        subst hacc
        have hpl : ((rows6.filter fun r => decide (r.o = k)).map (·.e)).length ≤ rows6.length := by
          rw [List.length_map]
          exact List.length_filter_le _ _
        clear hacc10
        repeat tb_start
        refine v_ixDL (j := k) S10 (hO8.up (e9.trans e10)) rfl (by rw [List.getElem?_map, hoy]; rfl) fun uo huo => ?_
        repeat tb_start
        refine v_ixDT (j := 2) S10 huo rfl rfl fun un hun => ?_
        obtain rfl := hun.int_inv
        repeat tb_start
        refine new_lst S10 (by show 1 ≤ sizeLine; decide) fun l11 H11 S11 => ?_
        repeat tb_start
        refine v_cat S11 (S11.own _ (.tail _ (.head _))).1 (S11.own _ (.head _)).1 (by rw [List.length_map, sizeLine_eq]; show _ + 1 ≤ _; omega) fun l12 H12 S12 => ?_
        have hcat : ((rows6.filter fun r => decide (r.o = k)).map (·.e)).map V.int ++ [V.int y.2.2] = (((rows6.filter fun r => decide (r.o = k)).map (·.e)) ++ [y.2.2]).map V.int := by rw [List.map_append]; rfl
        rw [hcat] at S12
        repeat tb_start
        refine v_maxI (SqL.of (S12.own _ (.head _)).1) (by rw [List.length_append]; exact Nat.succ_pos _) fun M hM1 hM2 => ?_
        rw [max_is hM1 hM2, ← endsOf_at hoy]
        exact kC _ _ _ rfl e10 S12.drop.drop.drop (.int _)
      intro D9 acc9 B9 H9 e9 S9 hacc9
      rw [filter_tt] at hacc9
      have hrg : (List.range os.length).map (fun k => PyData.int ((endsOf os rows6).getD k 0)) = (endsOf os rows6).map PyData.int := by
        have := rangeGetI (endsOf os rows6)
        rw [endsOf_len] at this
        exact this
      rw [hrg] at hacc9
      obtain ⟨B10, e10, S10, hL10⟩ := S9.toData hacc9
      have e810 := e9.trans e10
      have hrows10 := hrows8.up e810
      have hO10 := hO8.up e810
      clear S8 S9 hacc9
      repeat tb_start
      refine ⟨B10, r, .ref lo, rs, os, rfl, S10.ex, .inl hrows10, hO10, G, okA, fun D11 rows11 B11 H11 e11 T11 hrun11 => ?_⟩
      obtain ⟨B12, e12, S12, hD12⟩ := (S10.callN T11).toData (dpInts (K := K) (endsOf os rows11))
      obtain rfl := hrun11.det hrun6
      have e1012 := e11.trans e12
      clear S10 T11
      repeat tb_start
      refine ⟨B12, .ref D11, .ref D9, .list ((endsOf os rows11).map PyData.int), rfl, S12.ex, hD12, hL10.up e1012, alInts _ (by rw [endsOf_len]; omega) 2, fun B13 H13 T13 => ?_⟩
      have S13 := S12.callP T13
      have e1213 := T13.ex0
      clear S12 T13
      have e813 := e810.trans (e1012.trans e1213)
      repeat tb_start
      refine rngQ (by decide) (by decide) ?_
      refine lcPure K src_rng S13 (fun _ _ _ _ => True.intro) (fun _ => true) (fun k => .int ((usedOf rows11).getD k 0)) (by rw [List.length_range]; decide) ?_ ?_
      · rintro k xv B14 D14 acc14 H14 C Cs hk e14 S14 rfl kC kS
        have hk' : k < 6 := List.mem_range.mp hk
        repeat tb_start
        refine ⟨rfl, ?_⟩
        repeat tb_start
        refine lcPureL (enc := encWr) S14 (hD8.up (e813.trans e14)) (fun r => decide (r.m = k)) (fun r => .int (r.e - r.b)) (by omega) ?_ ?_
        · intro z zv B15 D15 acc15 H15 C2 Cs2 hmem e15 S15 hv kC2 kS2
          repeat tb_start
          refine ⟨rfl, ?_⟩
          repeat tb_start
          refine v_ixDT (j := 3) S15 hv rfl rfl fun u hu => ?_
          obtain rfl := hu.int_inv
          repeat tb_start
          refine ifd (fun hh => ?_) (fun hh => ?_)
          · repeat tb_start
            refine v_ixDT (j := 5) S15 hv rfl rfl fun u hu => ?_
            obtain rfl := hu.int_inv
            repeat tb_start
            refine v_ixDT (j := 4) S15 hv rfl rfl fun u hu => ?_
            obtain rfl := hu.int_inv
            repeat tb_start
            exact kC2 _ _ _ (decide_eq_true (by omega)) (Ex.refl _) S15 (.int _)
          · exact kS2 _ _ (decide_eq_false (by omega)) (Ex.refl _) S15
        intro D15 acc15 B15 H15 e15 S15 hacc15
        have hacc : acc15 = ((rows11.filter fun r => decide (r.m = k)).map fun r => r.e - r.b).map V.int := DpAll.ints (B := B15) (K := K) (by rw [List.map_map]; exact hacc15)
        subst hacc
        repeat tb_start
        refine v_sum (SqL.of (S15.own _ (.head _)).1) ?_
        rw [← usedOf_at hk']
        exact kC _ _ _ rfl e15 S15.drop (.int _)
      intro D14 acc14 B14 H14 e14 S14 hacc14
      rw [filter_tt] at hacc14
      have hrg : (List.range 6).map (fun k => PyData.int ((usedOf rows11).getD k 0)) = (usedOf rows11).map PyData.int := by
        have := rangeGetI (usedOf rows11)
        rw [usedOf_len] at this
        exact this
      replace hacc14 : DpAll K B14 acc14 ((List.range 6).map (fun k => PyData.int ((usedOf rows11).getD k 0))) := hacc14
      rw [hrg] at hacc14
      obtain ⟨B15, e15, S15, hM15⟩ := S14.toData hacc14
      have e815 := e813.trans (e14.trans e15)
      clear S13 S14 hacc14
      repeat tb_start
      refine ⟨B15, r, .ref lo, rs, os, rfl, S15.ex, .inl (hrows8.up e815), hO8.up e815, G, okA, fun D16 rows16 B16 H16 e16 T16 hrun16 => ?_⟩
      obtain ⟨B17, e17, S17, hD17⟩ := (S15.callN T16).toData (dpInts (K := K) (usedOf rows16))
      obtain rfl := hrun16.det hrun11
      clear S15 T16
      repeat tb_start
      refine ⟨B17, .ref D16, .ref D14, .list ((usedOf rows16).map PyData.int), rfl, S17.ex, hD17, hM15.up (e16.trans e17), alInts _ (by rw [usedOf_len]; decide) 2, fun B18 H18 T18 => ?_⟩
      have S18 := S17.callP T18
      have e1718 := T18.ex0
      clear S17 T18
      repeat tb_start
      exact NxE.mk' S18 (e1.trans (e2.trans (e3.trans (e4.trans (e5.trans (e58.trans (e815.trans (e16.trans (e17.trans e1718))))))))) ⟨⟨_, _, _, _, _, _, _, _, _, rfl⟩, _, _, _, hS4, rfl⟩
    · rintro σ B2 L1 H2 ⟨⟨_, _, _, _, _, _, _, _, _, rfl⟩, m, cs, kk, hS, rfl⟩ e1 S2
      repeat tb_start
      exact kend _
end
end LW

namespace LW
open PySem PySem.Spec PyProof.Rows L2 WK PM
theorem all_mk {l : PySem.W.OpenLaw} {w : World} {K : PySem.W.Frag} {h : Heap} {mg : Str → Option Value} {fa : Addr} (X : K.In h) (G : h.Ns mainGlobals mg) (hfa : mg "law" = some (.ref fa))
    {f__law_mix : Addr} {od__law_mix an__law_mix : Option Addr} {sl__law_mix : Array (Option Value)} {oc__law_mix kV__law_mix dc__law_mix pm__law_mix cd__law_mix ct__law_mix : Value}
    {f__law_next : Addr} {od__law_next an__law_next : Option Addr} {sl__law_next : Array (Option Value)} {oc__law_next kV__law_next dc__law_next pm__law_next cd__law_next ct__law_next : Value}
    {f_is_name : Addr} {od_is_name an_is_name : Option Addr} {sl_is_name : Array (Option Value)} {oc_is_name kV_is_name dc_is_name pm_is_name cd_is_name ct_is_name : Value}
    {f__law_led : Addr} {od__law_led an__law_led : Option Addr} {sl__law_led : Array (Option Value)} {oc__law_led kV__law_led dc__law_led pm__law_led cd__law_led ct__law_led : Value}
    {f__law_parts : Addr} {od__law_parts an__law_parts : Option Addr} {sl__law_parts : Array (Option Value)} {oc__law_parts kV__law_parts dc__law_parts pm__law_parts cd__law_parts ct__law_parts : Value}
    {f_need_many : Addr} {od_need_many an_need_many : Option Addr} {sl_need_many : Array (Option Value)} {oc_need_many kV_need_many dc_need_many pm_need_many cd_need_many ct_need_many : Value}
    {f_need_orders : Addr} {od_need_orders an_need_orders : Option Addr} {sl_need_orders : Array (Option Value)} {oc_need_orders kV_need_orders dc_need_orders pm_need_orders cd_need_orders ct_need_orders : Value}
    {f_worked : Addr} {od_worked an_worked : Option Addr} {sl_worked : Array (Option Value)} {oc_worked kV_worked dc_worked pm_worked cd_worked ct_worked : Value}
    {f_ends : Addr} {od_ends an_ends : Option Addr} {sl_ends : Array (Option Value)} {oc_ends kV_ends dc_ends pm_ends cd_ends ct_ends : Value}
    {f_used : Addr} {od_used an_used : Option Addr} {sl_used : Array (Option Value)} {oc_used kV_used dc_used pm_used cd_used ct_used : Value}
    {f__law_alike : Addr} {od__law_alike an__law_alike : Option Addr} {sl__law_alike : Array (Option Value)} {oc__law_alike kV__law_alike dc__law_alike pm__law_alike cd__law_alike ct__law_alike : Value}
    {f__law_orders : Addr} {od__law_orders an__law_orders : Option Addr} {sl__law_orders : Array (Option Value)} {oc__law_orders kV__law_orders dc__law_orders pm__law_orders cd__law_orders ct__law_orders : Value}
    {f__law_steps : Addr} {od__law_steps an__law_steps : Option Addr} {sl__law_steps : Array (Option Value)} {oc__law_steps kV__law_steps dc__law_steps pm__law_steps cd__law_steps ct__law_steps : Value}
    {f_law : Addr} {od_law an_law : Option Addr} {sl_law : Array (Option Value)} {oc_law kV_law dc_law pm_law cd_law ct_law : Value}
    {C_Parts : Addr}
    {f_Parts_is_row : Addr} {od_Parts_is_row an_Parts_is_row : Option Addr} {sl_Parts_is_row : Array (Option Value)} {oc_Parts_is_row kV_Parts_is_row dc_Parts_is_row pm_Parts_is_row cd_Parts_is_row ct_Parts_is_row : Value}
    {f_Parts_led_to : Addr} {od_Parts_led_to an_Parts_led_to : Option Addr} {sl_Parts_led_to : Array (Option Value)} {oc_Parts_led_to kV_Parts_led_to dc_Parts_led_to pm_Parts_led_to cd_Parts_led_to ct_Parts_led_to : Value}
    {f_Parts___init__ : Addr} {od_Parts___init__ an_Parts___init__ : Option Addr} {sl_Parts___init__ : Array (Option Value)} {oc_Parts___init__ kV_Parts___init__ dc_Parts___init__ pm_Parts___init__ cd_Parts___init__ ct_Parts___init__ : Value}
    {f_Parts_steps_of : Addr} {od_Parts_steps_of an_Parts_steps_of : Option Addr} {sl_Parts_steps_of : Array (Option Value)} {oc_Parts_steps_of kV_Parts_steps_of dc_Parts_steps_of pm_Parts_steps_of cd_Parts_steps_of ct_Parts_steps_of : Value}
    {f_Parts_need_part : Addr} {od_Parts_need_part an_Parts_need_part : Option Addr} {sl_Parts_need_part : Array (Option Value)} {oc_Parts_need_part kV_Parts_need_part dc_Parts_need_part pm_Parts_need_part cd_Parts_need_part ct_Parts_need_part : Value}
    {C_Queue : Addr}
    {f_Queue___init__ : Addr} {od_Queue___init__ an_Queue___init__ : Option Addr} {sl_Queue___init__ : Array (Option Value)} {oc_Queue___init__ kV_Queue___init__ dc_Queue___init__ pm_Queue___init__ cd_Queue___init__ ct_Queue___init__ : Value}
    {f_Queue_next_one : Addr} {od_Queue_next_one an_Queue_next_one : Option Addr} {sl_Queue_next_one : Array (Option Value)} {oc_Queue_next_one kV_Queue_next_one dc_Queue_next_one pm_Queue_next_one cd_Queue_next_one ct_Queue_next_one : Value}
    {tk_MOST_SIGNS : Tok}
    {tk_MOST_LOT : Tok}
    {tk_MOST_LEAD : Tok}
    {tk_MOST_NEED : Tok}
    {tk_MOST_STEPS : Tok}
    {tk_MACHINES : Tok}
    {tk_MOST_MINUTES : Tok}
    {tk_MOST_PARTS : Tok}
    {tk_MOST_LED : Tok}
    {tk_MOST_MANY : Tok}
    {tk_LAST_MINUTE : Tok}
    {tk_LETTERS : Tok}
    (a__law_mix : PySem.W.nsIn K mainGlobals "_law_mix" = some (some (.ref f__law_mix)))
    (l__law_mix : K.lookup f__law_mix = some ⟨oc__law_mix, od__law_mix, .func (PySem.W.fnOf "_law_mix" "_law_mix" (defArgs s__law_mix) (defBody s__law_mix) (defScope s__law_mix) .none kV__law_mix dc__law_mix pm__law_mix an__law_mix cd__law_mix ct__law_mix), sl__law_mix⟩)
    (c__law_mix : PySem.W.codeIn K cd__law_mix "_law_mix" = true)
    (k__law_mix : PySem.W.keepIn K (.ref f__law_mix) = true)
    (a__law_next : PySem.W.nsIn K mainGlobals "_law_next" = some (some (.ref f__law_next)))
    (l__law_next : K.lookup f__law_next = some ⟨oc__law_next, od__law_next, .func (PySem.W.fnOf "_law_next" "_law_next" (defArgs s__law_next) (defBody s__law_next) (defScope s__law_next) .none kV__law_next dc__law_next pm__law_next an__law_next cd__law_next ct__law_next), sl__law_next⟩)
    (c__law_next : PySem.W.codeIn K cd__law_next "_law_next" = true)
    (k__law_next : PySem.W.keepIn K (.ref f__law_next) = true)
    (a_is_name : PySem.W.nsIn K mainGlobals "is_name" = some (some (.ref f_is_name)))
    (l_is_name : K.lookup f_is_name = some ⟨oc_is_name, od_is_name, .func (PySem.W.fnOf "is_name" "is_name" (defArgs s_is_name) (defBody s_is_name) (defScope s_is_name) .none kV_is_name dc_is_name pm_is_name an_is_name cd_is_name ct_is_name), sl_is_name⟩)
    (c_is_name : PySem.W.codeIn K cd_is_name "is_name" = true)
    (k_is_name : PySem.W.keepIn K (.ref f_is_name) = true)
    (a__law_led : PySem.W.nsIn K mainGlobals "_law_led" = some (some (.ref f__law_led)))
    (l__law_led : K.lookup f__law_led = some ⟨oc__law_led, od__law_led, .func (PySem.W.fnOf "_law_led" "_law_led" (defArgs s__law_led) (defBody s__law_led) (defScope s__law_led) .none kV__law_led dc__law_led pm__law_led an__law_led cd__law_led ct__law_led), sl__law_led⟩)
    (c__law_led : PySem.W.codeIn K cd__law_led "_law_led" = true)
    (k__law_led : PySem.W.keepIn K (.ref f__law_led) = true)
    (a__law_parts : PySem.W.nsIn K mainGlobals "_law_parts" = some (some (.ref f__law_parts)))
    (l__law_parts : K.lookup f__law_parts = some ⟨oc__law_parts, od__law_parts, .func (PySem.W.fnOf "_law_parts" "_law_parts" (defArgs s__law_parts) (defBody s__law_parts) (defScope s__law_parts) .none kV__law_parts dc__law_parts pm__law_parts an__law_parts cd__law_parts ct__law_parts), sl__law_parts⟩)
    (c__law_parts : PySem.W.codeIn K cd__law_parts "_law_parts" = true)
    (k__law_parts : PySem.W.keepIn K (.ref f__law_parts) = true)
    (a_need_many : PySem.W.nsIn K mainGlobals "need_many" = some (some (.ref f_need_many)))
    (l_need_many : K.lookup f_need_many = some ⟨oc_need_many, od_need_many, .func (PySem.W.fnOf "need_many" "need_many" (defArgs s_need_many) (defBody s_need_many) (defScope s_need_many) .none kV_need_many dc_need_many pm_need_many an_need_many cd_need_many ct_need_many), sl_need_many⟩)
    (c_need_many : PySem.W.codeIn K cd_need_many "need_many" = true)
    (k_need_many : PySem.W.keepIn K (.ref f_need_many) = true)
    (a_need_orders : PySem.W.nsIn K mainGlobals "need_orders" = some (some (.ref f_need_orders)))
    (l_need_orders : K.lookup f_need_orders = some ⟨oc_need_orders, od_need_orders, .func (PySem.W.fnOf "need_orders" "need_orders" (defArgs s_need_orders) (defBody s_need_orders) (defScope s_need_orders) .none kV_need_orders dc_need_orders pm_need_orders an_need_orders cd_need_orders ct_need_orders), sl_need_orders⟩)
    (c_need_orders : PySem.W.codeIn K cd_need_orders "need_orders" = true)
    (k_need_orders : PySem.W.keepIn K (.ref f_need_orders) = true)
    (a_worked : PySem.W.nsIn K mainGlobals "worked" = some (some (.ref f_worked)))
    (l_worked : K.lookup f_worked = some ⟨oc_worked, od_worked, .func (PySem.W.fnOf "worked" "worked" (defArgs s_worked) (defBody s_worked) (defScope s_worked) .none kV_worked dc_worked pm_worked an_worked cd_worked ct_worked), sl_worked⟩)
    (c_worked : PySem.W.codeIn K cd_worked "worked" = true)
    (k_worked : PySem.W.keepIn K (.ref f_worked) = true)
    (a_ends : PySem.W.nsIn K mainGlobals "ends" = some (some (.ref f_ends)))
    (l_ends : K.lookup f_ends = some ⟨oc_ends, od_ends, .func (PySem.W.fnOf "ends" "ends" (defArgs s_ends) (defBody s_ends) (defScope s_ends) .none kV_ends dc_ends pm_ends an_ends cd_ends ct_ends), sl_ends⟩)
    (c_ends : PySem.W.codeIn K cd_ends "ends" = true)
    (k_ends : PySem.W.keepIn K (.ref f_ends) = true)
    (a_used : PySem.W.nsIn K mainGlobals "used" = some (some (.ref f_used)))
    (l_used : K.lookup f_used = some ⟨oc_used, od_used, .func (PySem.W.fnOf "used" "used" (defArgs s_used) (defBody s_used) (defScope s_used) .none kV_used dc_used pm_used an_used cd_used ct_used), sl_used⟩)
    (c_used : PySem.W.codeIn K cd_used "used" = true)
    (k_used : PySem.W.keepIn K (.ref f_used) = true)
    (a__law_alike : PySem.W.nsIn K mainGlobals "_law_alike" = some (some (.ref f__law_alike)))
    (l__law_alike : K.lookup f__law_alike = some ⟨oc__law_alike, od__law_alike, .func (PySem.W.fnOf "_law_alike" "_law_alike" (defArgs s__law_alike) (defBody s__law_alike) (defScope s__law_alike) .none kV__law_alike dc__law_alike pm__law_alike an__law_alike cd__law_alike ct__law_alike), sl__law_alike⟩)
    (c__law_alike : PySem.W.codeIn K cd__law_alike "_law_alike" = true)
    (k__law_alike : PySem.W.keepIn K (.ref f__law_alike) = true)
    (a__law_orders : PySem.W.nsIn K mainGlobals "_law_orders" = some (some (.ref f__law_orders)))
    (l__law_orders : K.lookup f__law_orders = some ⟨oc__law_orders, od__law_orders, .func (PySem.W.fnOf "_law_orders" "_law_orders" (defArgs s__law_orders) (defBody s__law_orders) (defScope s__law_orders) .none kV__law_orders dc__law_orders pm__law_orders an__law_orders cd__law_orders ct__law_orders), sl__law_orders⟩)
    (c__law_orders : PySem.W.codeIn K cd__law_orders "_law_orders" = true)
    (k__law_orders : PySem.W.keepIn K (.ref f__law_orders) = true)
    (a__law_steps : PySem.W.nsIn K mainGlobals "_law_steps" = some (some (.ref f__law_steps)))
    (l__law_steps : K.lookup f__law_steps = some ⟨oc__law_steps, od__law_steps, .func (PySem.W.fnOf "_law_steps" "_law_steps" (defArgs s__law_steps) (defBody s__law_steps) (defScope s__law_steps) .none kV__law_steps dc__law_steps pm__law_steps an__law_steps cd__law_steps ct__law_steps), sl__law_steps⟩)
    (c__law_steps : PySem.W.codeIn K cd__law_steps "_law_steps" = true)
    (k__law_steps : PySem.W.keepIn K (.ref f__law_steps) = true)
    (a_law : PySem.W.nsIn K mainGlobals "law" = some (some (.ref f_law)))
    (l_law : K.lookup f_law = some ⟨oc_law, od_law, .func (PySem.W.fnOf "law" "law" (defArgs s_law) (defBody s_law) (defScope s_law) .none kV_law dc_law pm_law an_law cd_law ct_law), sl_law⟩)
    (c_law : PySem.W.codeIn K cd_law "law" = true)
    (k_law : PySem.W.keepIn K (.ref f_law) = true)
    (aC_Parts : PySem.W.nsIn K mainGlobals "Parts" = some (some (.ref C_Parts)))
    (a_Parts_is_row : PySem.W.findIn K (.ref C_Parts) "is_row" = some (some (.ref f_Parts_is_row)))
    (i_Parts_is_row : PySem.W.isFn K (.ref f_Parts_is_row) = true)
    (l_Parts_is_row : K.lookup f_Parts_is_row = some ⟨oc_Parts_is_row, od_Parts_is_row, .func (PySem.W.fnOf "is_row" "Parts.is_row" (defArgs s_Parts_is_row) (defBody s_Parts_is_row) (defScope s_Parts_is_row) .none kV_Parts_is_row dc_Parts_is_row pm_Parts_is_row an_Parts_is_row cd_Parts_is_row ct_Parts_is_row), sl_Parts_is_row⟩)
    (c_Parts_is_row : PySem.W.codeIn K cd_Parts_is_row "Parts.is_row" = true)
    (k_Parts_is_row : PySem.W.keepIn K (.ref f_Parts_is_row) = true)
    (a_Parts_led_to : PySem.W.findIn K (.ref C_Parts) "led_to" = some (some (.ref f_Parts_led_to)))
    (i_Parts_led_to : PySem.W.isFn K (.ref f_Parts_led_to) = true)
    (l_Parts_led_to : K.lookup f_Parts_led_to = some ⟨oc_Parts_led_to, od_Parts_led_to, .func (PySem.W.fnOf "led_to" "Parts.led_to" (defArgs s_Parts_led_to) (defBody s_Parts_led_to) (defScope s_Parts_led_to) .none kV_Parts_led_to dc_Parts_led_to pm_Parts_led_to an_Parts_led_to cd_Parts_led_to ct_Parts_led_to), sl_Parts_led_to⟩)
    (c_Parts_led_to : PySem.W.codeIn K cd_Parts_led_to "Parts.led_to" = true)
    (k_Parts_led_to : PySem.W.keepIn K (.ref f_Parts_led_to) = true)
    (a_Parts___init__ : PySem.W.findIn K (.ref C_Parts) "__init__" = some (some (.ref f_Parts___init__)))
    (i_Parts___init__ : PySem.W.isFn K (.ref f_Parts___init__) = true)
    (l_Parts___init__ : K.lookup f_Parts___init__ = some ⟨oc_Parts___init__, od_Parts___init__, .func (PySem.W.fnOf "__init__" "Parts.__init__" (defArgs s_Parts___init__) (defBody s_Parts___init__) (defScope s_Parts___init__) .none kV_Parts___init__ dc_Parts___init__ pm_Parts___init__ an_Parts___init__ cd_Parts___init__ ct_Parts___init__), sl_Parts___init__⟩)
    (c_Parts___init__ : PySem.W.codeIn K cd_Parts___init__ "Parts.__init__" = true)
    (k_Parts___init__ : PySem.W.keepIn K (.ref f_Parts___init__) = true)
    (a_Parts_steps_of : PySem.W.findIn K (.ref C_Parts) "steps_of" = some (some (.ref f_Parts_steps_of)))
    (i_Parts_steps_of : PySem.W.isFn K (.ref f_Parts_steps_of) = true)
    (l_Parts_steps_of : K.lookup f_Parts_steps_of = some ⟨oc_Parts_steps_of, od_Parts_steps_of, .func (PySem.W.fnOf "steps_of" "Parts.steps_of" (defArgs s_Parts_steps_of) (defBody s_Parts_steps_of) (defScope s_Parts_steps_of) .none kV_Parts_steps_of dc_Parts_steps_of pm_Parts_steps_of an_Parts_steps_of cd_Parts_steps_of ct_Parts_steps_of), sl_Parts_steps_of⟩)
    (c_Parts_steps_of : PySem.W.codeIn K cd_Parts_steps_of "Parts.steps_of" = true)
    (k_Parts_steps_of : PySem.W.keepIn K (.ref f_Parts_steps_of) = true)
    (a_Parts_need_part : PySem.W.findIn K (.ref C_Parts) "need_part" = some (some (.ref f_Parts_need_part)))
    (i_Parts_need_part : PySem.W.isFn K (.ref f_Parts_need_part) = true)
    (l_Parts_need_part : K.lookup f_Parts_need_part = some ⟨oc_Parts_need_part, od_Parts_need_part, .func (PySem.W.fnOf "need_part" "Parts.need_part" (defArgs s_Parts_need_part) (defBody s_Parts_need_part) (defScope s_Parts_need_part) .none kV_Parts_need_part dc_Parts_need_part pm_Parts_need_part an_Parts_need_part cd_Parts_need_part ct_Parts_need_part), sl_Parts_need_part⟩)
    (c_Parts_need_part : PySem.W.codeIn K cd_Parts_need_part "Parts.need_part" = true)
    (k_Parts_need_part : PySem.W.keepIn K (.ref f_Parts_need_part) = true)
    (pg_Parts : PySem.W.plainGet K C_Parts Str.empty = true)
    (hd_Parts : PySem.W.hasDictIn K C_Parts = true)
    (po_Parts : PySem.W.plainOver K C_Parts = true)
    (sa_Parts : PySem.W.findIn K (.ref C_Parts) "__setattr__" = some (some (.builtin "object.__setattr__")))
    (mk_Parts : PySem.W.makesIn K C_Parts = true)
    (kc_Parts : PySem.W.keepIn K (.ref C_Parts) = true)
    (n_Parts_rows : PySem.W.findIn K (.ref C_Parts) "rows" = some none)
    (n_Parts_led : PySem.W.findIn K (.ref C_Parts) "led" = some none)
    (aC_Queue : PySem.W.nsIn K mainGlobals "Queue" = some (some (.ref C_Queue)))
    (a_Queue___init__ : PySem.W.findIn K (.ref C_Queue) "__init__" = some (some (.ref f_Queue___init__)))
    (i_Queue___init__ : PySem.W.isFn K (.ref f_Queue___init__) = true)
    (l_Queue___init__ : K.lookup f_Queue___init__ = some ⟨oc_Queue___init__, od_Queue___init__, .func (PySem.W.fnOf "__init__" "Queue.__init__" (defArgs s_Queue___init__) (defBody s_Queue___init__) (defScope s_Queue___init__) .none kV_Queue___init__ dc_Queue___init__ pm_Queue___init__ an_Queue___init__ cd_Queue___init__ ct_Queue___init__), sl_Queue___init__⟩)
    (c_Queue___init__ : PySem.W.codeIn K cd_Queue___init__ "Queue.__init__" = true)
    (k_Queue___init__ : PySem.W.keepIn K (.ref f_Queue___init__) = true)
    (a_Queue_next_one : PySem.W.findIn K (.ref C_Queue) "next_one" = some (some (.ref f_Queue_next_one)))
    (i_Queue_next_one : PySem.W.isFn K (.ref f_Queue_next_one) = true)
    (l_Queue_next_one : K.lookup f_Queue_next_one = some ⟨oc_Queue_next_one, od_Queue_next_one, .func (PySem.W.fnOf "next_one" "Queue.next_one" (defArgs s_Queue_next_one) (defBody s_Queue_next_one) (defScope s_Queue_next_one) .none kV_Queue_next_one dc_Queue_next_one pm_Queue_next_one an_Queue_next_one cd_Queue_next_one ct_Queue_next_one), sl_Queue_next_one⟩)
    (c_Queue_next_one : PySem.W.codeIn K cd_Queue_next_one "Queue.next_one" = true)
    (k_Queue_next_one : PySem.W.keepIn K (.ref f_Queue_next_one) = true)
    (pg_Queue : PySem.W.plainGet K C_Queue Str.empty = true)
    (hd_Queue : PySem.W.hasDictIn K C_Queue = true)
    (po_Queue : PySem.W.plainOver K C_Queue = true)
    (sa_Queue : PySem.W.findIn K (.ref C_Queue) "__setattr__" = some (some (.builtin "object.__setattr__")))
    (mk_Queue : PySem.W.makesIn K C_Queue = true)
    (kc_Queue : PySem.W.keepIn K (.ref C_Queue) = true)
    (n_Queue_waiting : PySem.W.findIn K (.ref C_Queue) "waiting" = some none)
    (n_Queue_free : PySem.W.findIn K (.ref C_Queue) "free" = some none)
    (g_MOST_SIGNS : PySem.W.nsIn K mainGlobals "MOST_SIGNS" = some (some (.int 8 tk_MOST_SIGNS)))
    (g_MOST_LOT : PySem.W.nsIn K mainGlobals "MOST_LOT" = some (some (.int 99 tk_MOST_LOT)))
    (g_MOST_LEAD : PySem.W.nsIn K mainGlobals "MOST_LEAD" = some (some (.int 30 tk_MOST_LEAD)))
    (g_MOST_NEED : PySem.W.nsIn K mainGlobals "MOST_NEED" = some (some (.int 9 tk_MOST_NEED)))
    (g_MOST_STEPS : PySem.W.nsIn K mainGlobals "MOST_STEPS" = some (some (.int 5 tk_MOST_STEPS)))
    (g_MACHINES : PySem.W.nsIn K mainGlobals "MACHINES" = some (some (.int 6 tk_MACHINES)))
    (g_MOST_MINUTES : PySem.W.nsIn K mainGlobals "MOST_MINUTES" = some (some (.int 99 tk_MOST_MINUTES)))
    (g_MOST_PARTS : PySem.W.nsIn K mainGlobals "MOST_PARTS" = some (some (.int 12 tk_MOST_PARTS)))
    (g_MOST_LED : PySem.W.nsIn K mainGlobals "MOST_LED" = some (some (.int 200 tk_MOST_LED)))
    (g_MOST_MANY : PySem.W.nsIn K mainGlobals "MOST_MANY" = some (some (.int 999 tk_MOST_MANY)))
    (g_LAST_MINUTE : PySem.W.nsIn K mainGlobals "LAST_MINUTE" = some (some (.int 9999 tk_LAST_MINUTE)))
    (g_LETTERS : PySem.W.nsIn K mainGlobals "LETTERS" = some (some (.str letters tk_LETTERS)))
    (z_list : PySem.W.nsIn K mainGlobals "list" = some none)
    (z_max : PySem.W.nsIn K mainGlobals "max" = some none)
    (z_len : PySem.W.nsIn K mainGlobals "len" = some none)
    (z_all : PySem.W.nsIn K mainGlobals "all" = some none)
    (z_set : PySem.W.nsIn K mainGlobals "set" = some none)
    (z_enumerate : PySem.W.nsIn K mainGlobals "enumerate" = some none)
    (z_tuple : PySem.W.nsIn K mainGlobals "tuple" = some none)
    (z_sum : PySem.W.nsIn K mainGlobals "sum" = some none)
    (z_range : PySem.W.nsIn K mainGlobals "range" = some none)
    (z_min : PySem.W.nsIn K mainGlobals "min" = some none)
    (z_isinstance : PySem.W.nsIn K mainGlobals "isinstance" = some none)
    (z_str : PySem.W.nsIn K mainGlobals "str" = some none)
    (z_int : PySem.W.nsIn K mainGlobals "int" = some none)
    (z_bool : PySem.W.nsIn K mainGlobals "bool" = some none)
    (z_dict : PySem.W.nsIn K mainGlobals "dict" = some none)
    : ∃ fd : FuncData, (∀ (s : Shared) (v : Value), BindsTo s fd ⟨[v], []⟩ [("_law_script", v)]) ∧ ∀ base : Heap, K.In base → base.Ns mainGlobals mg → FnOk l.prog w K mg base CX0 15 fa fd ["_law_script"] (spLaw K) := by
  have e := hfa.symm.trans (PySem.W.mg_of X G a_law)
  cases e
  have F__law_mix := fun_mk (st := s__law_mix) l__law_mix c__law_mix k__law_mix
  have m__law_mix := PySem.W.mg_of X G a__law_mix
  have F__law_next := fun_mk (st := s__law_next) l__law_next c__law_next k__law_next
  have m__law_next := PySem.W.mg_of X G a__law_next
  have F_is_name := fun_mk (st := s_is_name) l_is_name c_is_name k_is_name
  have m_is_name := PySem.W.mg_of X G a_is_name
  have F__law_led := fun_mk (st := s__law_led) l__law_led c__law_led k__law_led
  have m__law_led := PySem.W.mg_of X G a__law_led
  have F__law_parts := fun_mk (st := s__law_parts) l__law_parts c__law_parts k__law_parts
  have m__law_parts := PySem.W.mg_of X G a__law_parts
  have F_need_many := fun_mk (st := s_need_many) l_need_many c_need_many k_need_many
  have m_need_many := PySem.W.mg_of X G a_need_many
  have F_need_orders := fun_mk (st := s_need_orders) l_need_orders c_need_orders k_need_orders
  have m_need_orders := PySem.W.mg_of X G a_need_orders
  have F_worked := fun_mk (st := s_worked) l_worked c_worked k_worked
  have m_worked := PySem.W.mg_of X G a_worked
  have F_ends := fun_mk (st := s_ends) l_ends c_ends k_ends
  have m_ends := PySem.W.mg_of X G a_ends
  have F_used := fun_mk (st := s_used) l_used c_used k_used
  have m_used := PySem.W.mg_of X G a_used
  have F__law_alike := fun_mk (st := s__law_alike) l__law_alike c__law_alike k__law_alike
  have m__law_alike := PySem.W.mg_of X G a__law_alike
  have F__law_orders := fun_mk (st := s__law_orders) l__law_orders c__law_orders k__law_orders
  have m__law_orders := PySem.W.mg_of X G a__law_orders
  have F__law_steps := fun_mk (st := s__law_steps) l__law_steps c__law_steps k__law_steps
  have m__law_steps := PySem.W.mg_of X G a__law_steps
  have F_law := fun_mk (st := s_law) l_law c_law k_law
  have m_law := PySem.W.mg_of X G a_law
  have F_Parts_is_row := fun_mk (st := s_Parts_is_row) l_Parts_is_row c_Parts_is_row k_Parts_is_row
  have F_Parts_led_to := fun_mk (st := s_Parts_led_to) l_Parts_led_to c_Parts_led_to k_Parts_led_to
  have F_Parts___init__ := fun_mk (st := s_Parts___init__) l_Parts___init__ c_Parts___init__ k_Parts___init__
  have F_Parts_steps_of := fun_mk (st := s_Parts_steps_of) l_Parts_steps_of c_Parts_steps_of k_Parts_steps_of
  have F_Parts_need_part := fun_mk (st := s_Parts_need_part) l_Parts_need_part c_Parts_need_part k_Parts_need_part
  have cl_Parts : Cls K C_Parts := ⟨pg_Parts, hd_Parts, po_Parts, sa_Parts⟩
  have mC_Parts := PySem.W.mg_of X G aC_Parts
  have F_Queue___init__ := fun_mk (st := s_Queue___init__) l_Queue___init__ c_Queue___init__ k_Queue___init__
  have F_Queue_next_one := fun_mk (st := s_Queue_next_one) l_Queue_next_one c_Queue_next_one k_Queue_next_one
  have cl_Queue : Cls K C_Queue := ⟨pg_Queue, hd_Queue, po_Queue, sa_Queue⟩
  have mC_Queue := PySem.W.mg_of X G aC_Queue
  have c_MOST_SIGNS : GlI mg "MOST_SIGNS" 8 := ⟨_, PySem.W.mg_of X G g_MOST_SIGNS⟩
  have c_MOST_LOT : GlI mg "MOST_LOT" 99 := ⟨_, PySem.W.mg_of X G g_MOST_LOT⟩
  have c_MOST_LEAD : GlI mg "MOST_LEAD" 30 := ⟨_, PySem.W.mg_of X G g_MOST_LEAD⟩
  have c_MOST_NEED : GlI mg "MOST_NEED" 9 := ⟨_, PySem.W.mg_of X G g_MOST_NEED⟩
  have c_MOST_STEPS : GlI mg "MOST_STEPS" 5 := ⟨_, PySem.W.mg_of X G g_MOST_STEPS⟩
  have c_MACHINES : GlI mg "MACHINES" 6 := ⟨_, PySem.W.mg_of X G g_MACHINES⟩
  have c_MOST_MINUTES : GlI mg "MOST_MINUTES" 99 := ⟨_, PySem.W.mg_of X G g_MOST_MINUTES⟩
  have c_MOST_PARTS : GlI mg "MOST_PARTS" 12 := ⟨_, PySem.W.mg_of X G g_MOST_PARTS⟩
  have c_MOST_LED : GlI mg "MOST_LED" 200 := ⟨_, PySem.W.mg_of X G g_MOST_LED⟩
  have c_MOST_MANY : GlI mg "MOST_MANY" 999 := ⟨_, PySem.W.mg_of X G g_MOST_MANY⟩
  have c_LAST_MINUTE : GlI mg "LAST_MINUTE" 9999 := ⟨_, PySem.W.mg_of X G g_LAST_MINUTE⟩
  have c_LETTERS : GlS mg "LETTERS" letters := ⟨_, PySem.W.mg_of X G g_LETTERS⟩
  have n_list := PySem.W.mg_none_of X G z_list
  have n_max := PySem.W.mg_none_of X G z_max
  have n_len := PySem.W.mg_none_of X G z_len
  have n_all := PySem.W.mg_none_of X G z_all
  have n_set := PySem.W.mg_none_of X G z_set
  have n_enumerate := PySem.W.mg_none_of X G z_enumerate
  have n_tuple := PySem.W.mg_none_of X G z_tuple
  have n_sum := PySem.W.mg_none_of X G z_sum
  have n_range := PySem.W.mg_none_of X G z_range
  have n_min := PySem.W.mg_none_of X G z_min
  have n_isinstance := PySem.W.mg_none_of X G z_isinstance
  have n_str := PySem.W.mg_none_of X G z_str
  have n_int := PySem.W.mg_none_of X G z_int
  have n_bool := PySem.W.mg_none_of X G z_bool
  have n_dict := PySem.W.mg_none_of X G z_dict
  refine ⟨PySem.W.fnOf "law" "law" (defArgs s_law) (defBody s_law) (defScope s_law) .none kV_law dc_law pm_law an_law cd_law ct_law, fun s v => .of_eq rfl, fun base _ _ => ?_⟩
  have ckQ : CkQ K C_Queue := ⟨cl_Queue, n_Queue_waiting, n_Queue_free⟩
  have G__law_mix : FnG l.prog w K mg base 1 "_law_mix" ["_law_script", "_law_seed"] (spMix K) := ⟨_, _, ok__law_mix F__law_mix n_list, m__law_mix, k__law_mix, (F__law_mix.binds (ps := ["_law_script", "_law_seed"]) fun _ _ _ _ _ _ us hl => match us, hl with | [_, _], _ => rfl)⟩
  have G__law_next : FnG l.prog w K mg base 1 "_law_next" ["_law_h", "_law_many"] spNext := ⟨_, _, ok__law_next F__law_next n_max n_len, m__law_next, k__law_next, (F__law_next.binds (ps := ["_law_h", "_law_many"]) fun _ _ _ _ _ _ us hl => match us, hl with | [_, _], _ => rfl)⟩
  have G_is_name : FnG l.prog w K mg base 1 "is_name" ["word"] spIsName := ⟨_, _, ok_is_name F_is_name n_len n_all c_MOST_SIGNS c_LETTERS, m_is_name, k_is_name, (F_is_name.binds (ps := ["word"]) fun _ _ _ _ _ _ us hl => match us, hl with | [_], _ => rfl)⟩
  have G_is_row : MtG l.prog w K mg base 2 C_Parts "is_row" ["self", "row"] (spIsRow K C_Parts) := ⟨_, _, ok_is_row F_Parts_is_row G_is_name cl_Parts n_Parts_rows n_len n_all n_set c_MOST_LOT c_MOST_LEAD c_MOST_NEED c_MOST_STEPS c_MACHINES c_MOST_MINUTES, ⟨a_Parts_is_row, i_Parts_is_row, k_Parts_is_row⟩, (F_Parts_is_row.binds (ps := ["self", "row"]) fun _ _ _ _ _ _ us hl => match us, hl with | [_, _], _ => rfl), cl_Parts⟩
  have G_led_to : MtG l.prog w K mg base 1 C_Parts "led_to" ["self", "needs"] (spLedTo K C_Parts) := ⟨_, _, ok_led_to F_Parts_led_to cl_Parts n_Parts_rows n_Parts_led, ⟨a_Parts_led_to, i_Parts_led_to, k_Parts_led_to⟩, (F_Parts_led_to.binds (ps := ["self", "needs"]) fun _ _ _ _ _ _ us hl => match us, hl with | [_, _], _ => rfl), cl_Parts⟩
  have G_Parts : MkG l.prog w K mg base 3 C_Parts "Parts" ["self", "told"] (spPInit K C_Parts) := ⟨_, _, ok_parts_init F_Parts___init__ G_is_row G_led_to cl_Parts n_Parts_rows n_Parts_led n_enumerate n_tuple n_sum c_MOST_PARTS c_MOST_LED, ⟨mk_Parts, a_Parts___init__, i_Parts___init__, kc_Parts⟩, mC_Parts, (F_Parts___init__.binds (ps := ["self", "told"]) fun _ _ _ _ _ _ us hl => match us, hl with | [_, _], _ => rfl)⟩
  have G_led : ∀ n, FnG l.prog w K mg base n "_law_led" ["_law_rows", "_law_needs"] (spLL K n) := fun n => by
    induction n with
    | zero => exact ⟨_, _, ok__law_led0, m__law_led, k__law_led, (F__law_led.binds (ps := ["_law_rows", "_law_needs"]) fun _ _ _ _ _ _ us hl => match us, hl with | [_, _], _ => rfl)⟩
    | succ n ih => exact ⟨_, _, ok__law_ledS F__law_led ih, m__law_led, k__law_led, (F__law_led.binds (ps := ["_law_rows", "_law_needs"]) fun _ _ _ _ _ _ us hl => match us, hl with | [_, _], _ => rfl)⟩
  have G__law_led := G_led 13
  have G__law_parts : FnG l.prog w K mg base 14 "_law_parts" ["_law_h", "_law_most"] (spLParts K) := ⟨_, _, ok__law_parts F__law_parts G__law_next G__law_led n_range n_tuple n_sum, m__law_parts, k__law_parts, (F__law_parts.binds (ps := ["_law_h", "_law_most"]) fun _ _ _ _ _ _ us hl => match us, hl with | [_, _], _ => rfl)⟩
  have G_need_many : FnG l.prog w K mg base 1 "need_many" ["number", "low", "high"] spNeedMany := ⟨_, _, ok_need_many F_need_many, m_need_many, k_need_many, (F_need_many.binds (ps := ["number", "low", "high"]) fun _ _ _ _ _ _ us hl => match us, hl with | [_, _, _], _ => rfl)⟩
  have G_steps_of : MtG l.prog w K mg base 1 C_Parts "steps_of" ["self", "name"] (spStepsOf K C_Parts) := ⟨_, _, ok_steps_of F_Parts_steps_of cl_Parts n_Parts_rows, ⟨a_Parts_steps_of, i_Parts_steps_of, k_Parts_steps_of⟩, (F_Parts_steps_of.binds (ps := ["self", "name"]) fun _ _ _ _ _ _ us hl => match us, hl with | [_, _], _ => rfl), cl_Parts⟩
  have G_need_part : MtG l.prog w K mg base 1 C_Parts "need_part" ["self", "name"] (spNeedPart K C_Parts) := ⟨_, _, ok_need_part F_Parts_need_part cl_Parts n_Parts_rows, ⟨a_Parts_need_part, i_Parts_need_part, k_Parts_need_part⟩, (F_Parts_need_part.binds (ps := ["self", "name"]) fun _ _ _ _ _ _ us hl => match us, hl with | [_, _], _ => rfl), cl_Parts⟩
  have G_Queue : MkG l.prog w K mg base 1 C_Queue "Queue" ["self"] (spQInit K C_Queue) := ⟨_, _, ok_queue_init F_Queue___init__ ckQ n_range c_MACHINES, ⟨mk_Queue, a_Queue___init__, i_Queue___init__, kc_Queue⟩, mC_Queue, (F_Queue___init__.binds (ps := ["self"]) fun _ _ _ _ _ _ us hl => match us, hl with | [_], _ => rfl)⟩
  have G_next_one : MtG l.prog w K mg base 1 C_Queue "next_one" ["self"] (spNextOne K C_Queue) := ⟨_, _, ok_next_one F_Queue_next_one ckQ n_enumerate n_min n_max, ⟨a_Queue_next_one, i_Queue_next_one, k_Queue_next_one⟩, (F_Queue_next_one.binds (ps := ["self"]) fun _ _ _ _ _ _ us hl => match us, hl with | [_], _ => rfl), cl_Queue⟩
  have G_need_orders : FnG l.prog w K mg base 2 "need_orders" ["book", "orders"] (spNeedOrders K C_Parts) := ⟨_, _, ok_need_orders F_need_orders G_need_part G_need_many c_MOST_MANY c_LAST_MINUTE, m_need_orders, k_need_orders, (F_need_orders.binds (ps := ["book", "orders"]) fun _ _ _ _ _ _ us hl => match us, hl with | [_, _], _ => rfl)⟩
  have G_worked : FnG l.prog w K mg base 5 "worked" ["parts", "orders"] (spWorked K) := ⟨_, _, ok_worked F_worked ckQ cl_Parts G_Parts G_need_orders G_Queue G_steps_of G_next_one n_enumerate n_range n_min n_len, m_worked, k_worked, (F_worked.binds (ps := ["parts", "orders"]) fun _ _ _ _ _ _ us hl => match us, hl with | [_, _], _ => rfl)⟩
  have G_ends : FnG l.prog w K mg base 6 "ends" ["parts", "orders"] (spEnds K) := ⟨_, _, ok_ends F_ends G_worked n_max, m_ends, k_ends, (F_ends.binds (ps := ["parts", "orders"]) fun _ _ _ _ _ _ us hl => match us, hl with | [_, _], _ => rfl)⟩
  have G_used : FnG l.prog w K mg base 6 "used" ["parts", "orders"] (spUsed K) := ⟨_, _, ok_used F_used G_worked c_MACHINES, m_used, k_used, (F_used.binds (ps := ["parts", "orders"]) fun _ _ _ _ _ _ us hl => match us, hl with | [_, _], _ => rfl)⟩
  have G_alike : ∀ n, FnG l.prog w K mg base n "_law_alike" ["_law_found", "_law_due"] (spAl K n) := fun n => by
    induction n with
    | zero => exact ⟨_, _, ok__law_alike0, m__law_alike, k__law_alike, (F__law_alike.binds (ps := ["_law_found", "_law_due"]) fun _ _ _ _ _ _ us hl => match us, hl with | [_, _], _ => rfl)⟩
    | succ n ih => exact ⟨_, _, ok__law_alikeS F__law_alike ih n_isinstance n_tuple n_list n_str n_int n_bool n_len n_range, m__law_alike, k__law_alike, (F__law_alike.binds (ps := ["_law_found", "_law_due"]) fun _ _ _ _ _ _ us hl => match us, hl with | [_, _], _ => rfl)⟩
  have G__law_alike := G_alike 4
  have G__law_orders : FnG l.prog w K mg base 2 "_law_orders" ["_law_h", "_law_rows", "_law_most"] (spLOrders K) := ⟨_, _, ok__law_orders F__law_orders G__law_next n_range n_len, m__law_orders, k__law_orders, (F__law_orders.binds (ps := ["_law_h", "_law_rows", "_law_most"]) fun _ _ _ _ _ _ us hl => match us, hl with | [_, _, _], _ => rfl)⟩
  have G__law_steps : FnG l.prog w K mg base 1 "_law_steps" ["_law_rows", "_law_orders_here"] (spLSteps K) := ⟨_, _, ok__law_steps F__law_steps n_range n_len n_dict n_sum n_min, m__law_steps, k__law_steps, (F__law_steps.binds (ps := ["_law_rows", "_law_orders_here"]) fun _ _ _ _ _ _ us hl => match us, hl with | [_, _], _ => rfl)⟩
  exact ok_law F_law G__law_mix G__law_parts G__law_orders G__law_steps G_worked G_ends G_used G__law_alike n_range n_len n_max n_sum
theorem walk {l : PySem.W.OpenLaw} {q : Program} {loose : List Str} {XP : (Str → Option Value) → Heap → Prop} {YP : World → Heap → Prop} {d : DefRec} {K : Params → PySem.W.Frag} (hn : l.most = some 63) (hdf : d.params.defaults = [])
        (hY : ∀ (w : World) (h : Heap), YP w h → (K w.params).In h)
        (F : ∀ (w : World) (mg : Str → Option Value) (fa : Addr) (h : Heap), (K w.params).In h → h.Ns mainGlobals mg → mg d.name = some (.ref fa) →
          ∃ fd : FuncData, (∀ (s : Shared) (u : Value), BindsTo s fd ⟨[u], []⟩ [("_law_script", u)]) ∧ ∀ base : Heap, (K w.params).In base → base.Ns mainGlobals mg → FnOk l.prog w (K w.params) mg base CX0 15 fa fd ["_law_script"] (spLaw (K w.params))) :
        PySem.W.WalkO q loose XP YP l.row.toRowW d [] (fun f vs => PySem.call f vs) :=
      L2.walk_of (n := 63) (k := 15) (x := "_law_script") (CX := fun _ => CX0) (sp := fun w => spLaw (K w.params)) hn (by decide) hdf ⟨rfl, by decide, by decide⟩ hY F (fun _ _ a ns hl _ hS => ⟨a, ns, rfl, hS, hl, fun _ => rfl⟩) fun _ _ _ _ _ z => z
end LW

open PySem PySem.W PyProof.Rows
set_option maxRecDepth 100000 in
set_option maxHeartbeats 0 in
theorem PySem.Challenge.cw_partkin_k23_when_steps_are_done_holds : PySem.Challenge.rw_partkin_k23_when_steps_are_done.Holds := by
  w_on; o_law; k_head; (case hw => w_witness2)
  k_fill
  refine LW.walk (l := PySem.Challenge.rw_partkin_k23_when_steps_are_done) rfl rfl (fun w h Y => PySem.W.kIn_of Y) ?F
  case F =>
    intro w mg fa h KX G hmg
    refine' LW.all_mk KX G hmg ?a__law_mix ?l__law_mix ?c__law_mix ?k__law_mix ?a__law_next ?l__law_next ?c__law_next ?k__law_next ?a_is_name ?l_is_name ?c_is_name ?k_is_name ?a__law_led ?l__law_led ?c__law_led ?k__law_led ?a__law_parts ?l__law_parts ?c__law_parts ?k__law_parts ?a_need_many ?l_need_many ?c_need_many ?k_need_many ?a_need_orders ?l_need_orders ?c_need_orders ?k_need_orders ?a_worked ?l_worked ?c_worked ?k_worked ?a_ends ?l_ends ?c_ends ?k_ends ?a_used ?l_used ?c_used ?k_used ?a__law_alike ?l__law_alike ?c__law_alike ?k__law_alike ?a__law_orders ?l__law_orders ?c__law_orders ?k__law_orders ?a__law_steps ?l__law_steps ?c__law_steps ?k__law_steps ?a_law ?l_law ?c_law ?k_law ?aC_Parts ?a_Parts_is_row ?i_Parts_is_row ?l_Parts_is_row ?c_Parts_is_row ?k_Parts_is_row ?a_Parts_led_to ?i_Parts_led_to ?l_Parts_led_to ?c_Parts_led_to ?k_Parts_led_to ?a_Parts___init__ ?i_Parts___init__ ?l_Parts___init__ ?c_Parts___init__ ?k_Parts___init__ ?a_Parts_steps_of ?i_Parts_steps_of ?l_Parts_steps_of ?c_Parts_steps_of ?k_Parts_steps_of ?a_Parts_need_part ?i_Parts_need_part ?l_Parts_need_part ?c_Parts_need_part ?k_Parts_need_part ?pg_Parts ?hd_Parts ?po_Parts ?sa_Parts ?mk_Parts ?kc_Parts ?n_Parts_rows ?n_Parts_led ?aC_Queue ?a_Queue___init__ ?i_Queue___init__ ?l_Queue___init__ ?c_Queue___init__ ?k_Queue___init__ ?a_Queue_next_one ?i_Queue_next_one ?l_Queue_next_one ?c_Queue_next_one ?k_Queue_next_one ?pg_Queue ?hd_Queue ?po_Queue ?sa_Queue ?mk_Queue ?kc_Queue ?n_Queue_waiting ?n_Queue_free ?g_MOST_SIGNS ?g_MOST_LOT ?g_MOST_LEAD ?g_MOST_NEED ?g_MOST_STEPS ?g_MACHINES ?g_MOST_MINUTES ?g_MOST_PARTS ?g_MOST_LED ?g_MOST_MANY ?g_LAST_MINUTE ?g_LETTERS ?z_list ?z_max ?z_len ?z_all ?z_set ?z_enumerate ?z_tuple ?z_sum ?z_range ?z_min ?z_isinstance ?z_str ?z_int ?z_bool ?z_dict
    (case a__law_mix => k_is)
    (case l__law_mix => k_is)
    (case c__law_mix => k_is)
    (case k__law_mix => k_is)
    (case a__law_next => k_is)
    (case l__law_next => k_is)
    (case c__law_next => k_is)
    (case k__law_next => k_is)
    (case a_is_name => k_is)
    (case l_is_name => k_is)
    (case c_is_name => k_is)
    (case k_is_name => k_is)
    (case a__law_led => k_is)
    (case l__law_led => k_is)
    (case c__law_led => k_is)
    (case k__law_led => k_is)
    (case a__law_parts => k_is)
    (case l__law_parts => k_is)
    (case c__law_parts => k_is)
    (case k__law_parts => k_is)
    (case a_need_many => k_is)
    (case l_need_many => k_is)
    (case c_need_many => k_is)
    (case k_need_many => k_is)
    (case a_need_orders => k_is)
    (case l_need_orders => k_is)
    (case c_need_orders => k_is)
    (case k_need_orders => k_is)
    (case a_worked => k_is)
    (case l_worked => k_is)
    (case c_worked => k_is)
    (case k_worked => k_is)
    (case a_ends => k_is)
    (case l_ends => k_is)
    (case c_ends => k_is)
    (case k_ends => k_is)
    (case a_used => k_is)
    (case l_used => k_is)
    (case c_used => k_is)
    (case k_used => k_is)
    (case a__law_alike => k_is)
    (case l__law_alike => k_is)
    (case c__law_alike => k_is)
    (case k__law_alike => k_is)
    (case a__law_orders => k_is)
    (case l__law_orders => k_is)
    (case c__law_orders => k_is)
    (case k__law_orders => k_is)
    (case a__law_steps => k_is)
    (case l__law_steps => k_is)
    (case c__law_steps => k_is)
    (case k__law_steps => k_is)
    (case a_law => k_is)
    (case l_law => k_is)
    (case c_law => k_is)
    (case k_law => k_is)
    (case aC_Parts => k_is)
    (case a_Parts_is_row => k_is)
    (case i_Parts_is_row => k_is)
    (case l_Parts_is_row => k_is)
    (case c_Parts_is_row => k_is)
    (case k_Parts_is_row => k_is)
    (case a_Parts_led_to => k_is)
    (case i_Parts_led_to => k_is)
    (case l_Parts_led_to => k_is)
    (case c_Parts_led_to => k_is)
    (case k_Parts_led_to => k_is)
    (case a_Parts___init__ => k_is)
    (case i_Parts___init__ => k_is)
    (case l_Parts___init__ => k_is)
    (case c_Parts___init__ => k_is)
    (case k_Parts___init__ => k_is)
    (case a_Parts_steps_of => k_is)
    (case i_Parts_steps_of => k_is)
    (case l_Parts_steps_of => k_is)
    (case c_Parts_steps_of => k_is)
    (case k_Parts_steps_of => k_is)
    (case a_Parts_need_part => k_is)
    (case i_Parts_need_part => k_is)
    (case l_Parts_need_part => k_is)
    (case c_Parts_need_part => k_is)
    (case k_Parts_need_part => k_is)
    (case pg_Parts => k_is)
    (case hd_Parts => k_is)
    (case po_Parts => k_is)
    (case sa_Parts => k_is)
    (case mk_Parts => k_is)
    (case kc_Parts => k_is)
    (case n_Parts_rows => k_is)
    (case n_Parts_led => k_is)
    (case aC_Queue => k_is)
    (case a_Queue___init__ => k_is)
    (case i_Queue___init__ => k_is)
    (case l_Queue___init__ => k_is)
    (case c_Queue___init__ => k_is)
    (case k_Queue___init__ => k_is)
    (case a_Queue_next_one => k_is)
    (case i_Queue_next_one => k_is)
    (case l_Queue_next_one => k_is)
    (case c_Queue_next_one => k_is)
    (case k_Queue_next_one => k_is)
    (case pg_Queue => k_is)
    (case hd_Queue => k_is)
    (case po_Queue => k_is)
    (case sa_Queue => k_is)
    (case mk_Queue => k_is)
    (case kc_Queue => k_is)
    (case n_Queue_waiting => k_is)
    (case n_Queue_free => k_is)
    (case g_MOST_SIGNS => k_is)
    (case g_MOST_LOT => k_is)
    (case g_MOST_LEAD => k_is)
    (case g_MOST_NEED => k_is)
    (case g_MOST_STEPS => k_is)
    (case g_MACHINES => k_is)
    (case g_MOST_MINUTES => k_is)
    (case g_MOST_PARTS => k_is)
    (case g_MOST_LED => k_is)
    (case g_MOST_MANY => k_is)
    (case g_LAST_MINUTE => k_is)
    (case g_LETTERS => k_is)
    (case z_list => k_is)
    (case z_max => k_is)
    (case z_len => k_is)
    (case z_all => k_is)
    (case z_set => k_is)
    (case z_enumerate => k_is)
    (case z_tuple => k_is)
    (case z_sum => k_is)
    (case z_range => k_is)
    (case z_min => k_is)
    (case z_isinstance => k_is)
    (case z_str => k_is)
    (case z_int => k_is)
    (case z_bool => k_is)
    (case z_dict => k_is)
